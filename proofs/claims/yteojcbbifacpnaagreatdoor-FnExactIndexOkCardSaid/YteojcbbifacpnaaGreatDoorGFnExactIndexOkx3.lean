-- Laid by gen.py of this session (over the kit's printing program): what the law FnExactIndexOk reaches, as Lean functions, and that Go comes to just that.
import Derived.Test.YteojcbbifacpnaaGreatDoorGFnExactIndexOkx0
import Derived.Test.YteojcbbifacpnaaGreatDoorGFnExactIndexOkx1
import Derived.Test.YteojcbbifacpnaaGreatDoorGFnExactIndexOkx2
import Derived.Test.YteojcbbifacpnaaGreatDoorZFnExactIndexOk
namespace Go.Proofs.YteojcbbifacpnaaGreatDoor.GFnExactIndexOk
open Go.RowKit Go.Proofs.YteojcbbifacpnaaGreatDoorW.PrintWords Go.Proofs.YteojcbbifacpnaaGreatDoorW.PrintLast Go.Proofs.YteojcbbifacpnaaGreatDoorW.PrintMore Go.Proofs.YteojcbbifacpnaaGreatDoorW.Zs
attribute [local go_sem] max2_int min2_int max_two min_two max_three min_three max_four min_four -- for this text's walks alone
set_option linter.unusedVariables false
set_option linter.unusedSimpArgs false
/-! ### spec_l7host: function 124 -/
mutual
def spec_l7host.j0:Nat→ByteArray→Bool→Option (Bool)
 |0,_,_=>none
 |k+1,x0,x14=>if x14=true then(some false)else((spec_l7split.f k x0 46).bind fun t124=>(spec_l7host.l0 k t124 0))
def spec_l7host.l0:Nat→List ByteArray→Int→Option (Bool)
 |0,_,_=>none
 |k+1,x3,x4=>if x4<(x3.length:Int)then(if 0≤x4 then(if(rdOf ByteArray.empty x3 x4).toList=([]:List UInt8)then(some false)else(spec_l7host.l1 k x3 x4 0))else(none))else(some true)
def spec_l7host.l1:Nat→List ByteArray→Int→Int→Option (Bool)
 |0,_,_,_=>none
 |k+1,x3,x4,x5=>if 0≤x4 then(if x4<(x3.length:Int)then(if x5<((rdOf ByteArray.empty x3 x4).size:Int)then(if 0≤x5 then(if(bt (rdOf ByteArray.empty x3 x4) x5)≥97 then(if((bt (rdOf ByteArray.empty x3 x4) x5)≤122)then(spec_l7host.l1 k x3 x4 (wrap64 (x5+1)))else((spec_l1digit.f (bt (rdOf ByteArray.empty x3 x4) x5)).bind fun t130=>(if t130=true then(spec_l7host.l1 k x3 x4 (wrap64 (x5+1)))else(if(bt (rdOf ByteArray.empty x3 x4) x5)=45 then(spec_l7host.l1 k x3 x4 (wrap64 (x5+1)))else(some false)))))else((spec_l1digit.f (bt (rdOf ByteArray.empty x3 x4) x5)).bind fun t131=>(if t131=true then(spec_l7host.l1 k x3 x4 (wrap64 (x5+1)))else(if(bt (rdOf ByteArray.empty x3 x4) x5)=45 then(spec_l7host.l1 k x3 x4 (wrap64 (x5+1)))else(some false)))))else(none))else(spec_l7host.l0 k x3 (wrap64 (x4+1))))else(none))else(none)
end
def spec_l7host.f (k:Nat) (a0:ByteArray):Option (Bool):=if(a0.size:Int)=0 then(spec_l7host.j0 k a0 true)else(spec_l7host.j0 k a0 (decide ((a0.size:Int)>60)))
theorem spec_l7host.mono_l: ∀k,(∀y0 y1,LeO (spec_l7host.j0 k y0 y1) (spec_l7host.j0 (k+1) y0 y1))∧(∀y0 y1,LeO (spec_l7host.l0 k y0 y1) (spec_l7host.l0 (k+1) y0 y1))∧(∀y0 y1 y2,LeO (spec_l7host.l1 k y0 y1 y2) (spec_l7host.l1 (k+1) y0 y1 y2))
 |0=>⟨fun _ _ r h=>by simp[spec_l7host.j0]at h,fun _ _ r h=>by simp[spec_l7host.l0]at h,fun _ _ _ r h=>by simp[spec_l7host.l1]at h⟩
 |k+1=>by
  obtain⟨ih0,ih1,ih2⟩:=spec_l7host.mono_l k;refine⟨?_,?_,?_⟩
  ·intro y0 y1;unfold spec_l7host.j0
   repeat' first|(with_reducible first|exact ih0 _ _|exact ih1 _ _|exact ih2 _ _ _|exact spec_l7split.mono _ _ _|exact LeO.refl _|exact LeO.none _|refine LeO.ite ?_ ?_|refine LeO.bind ?_ (fun _=>?_))|exact ih0 _ _|exact ih1 _ _|exact ih2 _ _ _|exact spec_l7split.mono _ _ _|exact LeO.none _|refine LeO.ite ?_ ?_|refine LeO.bind ?_ (fun _=>?_)
  ·intro y0 y1;unfold spec_l7host.l0
   repeat' first|(with_reducible first|exact ih0 _ _|exact ih1 _ _|exact ih2 _ _ _|exact spec_l7split.mono _ _ _|exact LeO.refl _|exact LeO.none _|refine LeO.ite ?_ ?_|refine LeO.bind ?_ (fun _=>?_))|exact ih0 _ _|exact ih1 _ _|exact ih2 _ _ _|exact spec_l7split.mono _ _ _|exact LeO.none _|refine LeO.ite ?_ ?_|refine LeO.bind ?_ (fun _=>?_)
  ·intro y0 y1 y2;unfold spec_l7host.l1
   repeat' first|(with_reducible first|exact ih0 _ _|exact ih1 _ _|exact ih2 _ _ _|exact spec_l7split.mono _ _ _|exact LeO.refl _|exact LeO.none _|refine LeO.ite ?_ ?_|refine LeO.bind ?_ (fun _=>?_))|exact ih0 _ _|exact ih1 _ _|exact ih2 _ _ _|exact spec_l7split.mono _ _ _|exact LeO.none _|refine LeO.ite ?_ ?_|refine LeO.bind ?_ (fun _=>?_)
theorem spec_l7host.mono: ∀a0 k,LeO (spec_l7host.f k a0) (spec_l7host.f (k+1) a0):=by
 intro a0 k;obtain⟨ih0,ih1,ih2⟩:=spec_l7host.mono_l k;unfold spec_l7host.f
 repeat' first|(with_reducible first|exact ih0 _ _|exact ih1 _ _|exact ih2 _ _ _|exact spec_l7split.mono _ _ _|exact LeO.refl _|exact LeO.none _|refine LeO.ite ?_ ?_|refine LeO.bind ?_ (fun _=>?_))|exact ih0 _ _|exact ih1 _ _|exact ih2 _ _ _|exact spec_l7split.mono _ _ _|exact LeO.none _|refine LeO.ite ?_ ?_|refine LeO.bind ?_ (fun _=>?_)
set_option maxHeartbeats 40000000 in
set_option maxRecDepth 100000 in
theorem spec_l7host.calls (k : Nat) (a0 : ByteArray) (r : Bool) (w : World) (h : spec_l7host.f k a0 = some r) :
  Calls Tryz.prog 124 #[.string a0] w fun e w'=>e= .returned (.bool r)∧Below w.heap.size w w':=by
 have HB:=Aside0.mk (Below.refl w.heap.size w);have H:(if(a0.size:Int)=0 then(spec_l7host.j0 k a0 true)else(spec_l7host.j0 k a0 (decide ((a0.size:Int)>60))))=some r:=h;clear h;have HC2:=Aside0.mk H;clear H;go_enter Tryz.func124,Tryz.ntmps124
 go_upto_region 1 with(fail)
 go_cut [14] (fun v14 wc=> ∃(kq:Nat) (x14_1:Bool),v14= .bool x14_1∧Aside0 (spec_l7host.j0 kq a0 x14_1=some r)∧Aside0 (kq≤k)∧Aside0 (Below w.heap.size w wc))
 case first=>
  have H:=HC2.out;clear HC2
  by_cases c3:(a0.size:Int)=0
  ·rw[if_pos c3]at H;have c3b0:((a0.size:Int)==0)=true:=beq_iff_eq.mpr c3;have c3b1:((a0.size:Int)!=0)=false:=bne_eq_false_iff_eq.mpr c3;clear c3;(first|rw[c3b0]|(simp only[i64_w,i32_w];rw[c3b0])|rw[c3b1]|(rw[c3b2];simp only[Bool.not_true,Bool.not_false])|skip);have H':=Aside0.mk H;clear H;go_wp2
   go_meet
   case rel=>exact⟨_,(true),zz2,H',⟨zz24⟩,⟨zz0⟩⟩
  ·rw[if_neg c3]at H;have c3b0:((a0.size:Int)==0)=false:=beq_eq_false_iff_ne.mpr c3;have c3b1:((a0.size:Int)!=0)=true:=bne_iff_ne.mpr c3;(first|rw[c3b0]|(simp only[i64_w,i32_w];rw[c3b0])|rw[c3b1]|(rw[c3b2];simp only[Bool.not_true,Bool.not_false])|skip);have H':=Aside0.mk H;clear H;go_wp2
   go_meet
   case rel=>exact⟨_,(decide ((a0.size:Int)>60)),zz2,H',⟨zz24⟩,⟨zz0⟩⟩
 case rest=>
  clear HC2;(try clear c1);(try clear p2);(try clear c3);(try clear c3b0);(try clear c3b1);obtain⟨kq,x14_1,rfl,HA,HJ1,HB⟩:=hcut
  cases kq with
  |zero=>exact absurd HA.out (by simp[spec_l7host.j0])
  |succ kj1=>
   have H:=HA.out;clear HA;simp only[spec_l7host.j0]at H
   by_cases c4:x14_1=true
   ·subst c4;rw[if_pos rfl]at H;obtain rfl:=Option.some.inj H;go_wp2
    go_ret;exact⟨zz1,zz0⟩
   ·replace c4:=Bool.eq_false_iff.mpr c4;subst c4;rw[if_neg Bool.false_ne_true]at H;replace H:=Option.bind_eq_some_iff.mp H;obtain⟨t124,A50,H⟩:=H;(try dsimp only at H);have A5:=Aside0.mk A50;clear A50;have H':=Aside0.mk H;clear H;go_wp2_with (first|((with_reducible refine gate_callee (f:=47) rfl ?_);refine goesQ_ 16 Tryz.func47 #[.string a0,.int .u8 46] ?_;(with_reducible refine(spec_l7split.calls kj1 a0 46 t124 _ A5.out).mono ?_);rintro e w6 ⟨v125,rfl,ho0,hb⟩;refine⟨_,rfl,?_⟩;have HO126:=Aside0.mk (Kd.R_lower ho0 (below_size zz0));replace HB:=Aside0.mk (below_step zz0 hb);(try clear hb);(try clear ho0)))
    go_loopg [4] kj1 (fun kq v4 w'=> ∃(x4_2:Int),v4= .int .i64 x4_2∧Aside0 (spec_l7host.l0 kq t124 x4_2=some r)∧Aside0 (kq≤kj1)∧Aside0 (Kd.R Kd.string 9 w' w.heap.size (fun _=>True) v125 t124)∧Aside0 (Below w.heap.size w w'))
    case atStart=>exact⟨(0),zz2,H',⟨Nat.le_refl _⟩,⟨by(with_reducible repeat(first|apply Kd.R_alloc|apply Kd.R_drewN|apply Kd.R_drew));exact HO126.out⟩,⟨zz0⟩⟩
    case round=>
     clear H';(try clear c1);(try clear p2);(try clear c3);(try clear c3b0);(try clear c3b1);(try clear c4);(try clear p2);obtain⟨x4_2,rfl,HA,HK2,HO_3,HB⟩:=hrel
     cases gk with
     |zero=>exact absurd HA.out (by simp[spec_l7host.l0])
     |succ k2=>
      have H:=HA.out;clear HA;simp only[spec_l7host.l0]at H
      by_cases c7:x4_2<(t124.length:Int)
      ·rw[if_pos c7]at H;have c7b0:decide (x4_2<(t124.length:Int))=true:=decide_eq_true c7;clear c7
       by_cases c8:0≤x4_2
       ·rw[if_pos c8]at H;have c8b0:decide (0≤x4_2)=true:=decide_eq_true c8;clear c8
        by_cases c9:(rdOf ByteArray.empty t124 x4_2).toList=([]:List UInt8)
        ·rw[if_pos c9]at H;have c9b0:((rdOf ByteArray.empty t124 x4_2).toList==([]:List UInt8))=true:=beq_iff_eq.mpr c9;have c9e:(rdOf ByteArray.empty t124 x4_2).toList.isEmpty=true:=by have hz_:=beq_iff_eq.1 c9b0;rw[hz_];rfl
         (try rw[c9e]);have c9b1:((rdOf ByteArray.empty t124 x4_2).toList !=([]:List UInt8))=false:=bne_eq_false_iff_eq.mpr c9;clear c9;obtain rfl:=Option.some.inj H;obtain⟨Ao10,co10,eo10⟩:=Kd.R_slice HO_3.out;subst eo10;have p127:0≤(x4_2:Int):=of_decide_eq_true zz3;have q127:x4_2<(t124.length:Int):=of_decide_eq_true zz3;obtain⟨ad127,e127,hx127_0⟩:=Kd.at_string (Kd.R_reads' HO_3.out).2.2 x4_2 p127 q127;cases e127;replace p127:=eq_true p127;replace q127:=eq_true q127;go_wp2
         go_ret;exact⟨zz1,zz0⟩
        ·rw[if_neg c9]at H;have c9b0:((rdOf ByteArray.empty t124 x4_2).toList==([]:List UInt8))=false:=beq_eq_false_iff_ne.mpr c9;have c9e:(rdOf ByteArray.empty t124 x4_2).toList.isEmpty=false:=by cases hz_:(rdOf ByteArray.empty t124 x4_2).toList with|nil=>(rw[hz_]at c9b0;exact absurd c9b0 (by decide))|cons _ _=>rfl
         (try rw[c9e]);have c9b1:((rdOf ByteArray.empty t124 x4_2).toList !=([]:List UInt8))=true:=bne_iff_ne.mpr c9;have H':=Aside0.mk H;clear H;obtain⟨Ao11,co11,eo11⟩:=Kd.R_slice HO_3.out;subst eo11;have p127:0≤(x4_2:Int):=of_decide_eq_true zz3;have q127:x4_2<(t124.length:Int):=of_decide_eq_true zz3;obtain⟨ad127,e127,hx127_0⟩:=Kd.at_string (Kd.R_reads' HO_3.out).2.2 x4_2 p127 q127;cases e127;replace p127:=eq_true p127;replace q127:=eq_true q127;go_wp2
         go_loopg [5] k2 (fun kq v5 w'=> ∃(x5_3:Int),v5= .int .i64 x5_3∧Aside0 (spec_l7host.l1 kq t124 x4_2 x5_3=some r)∧Aside0 (kq≤k2)∧Aside0 (Kd.R Kd.string 9 w' w.heap.size (fun _=>True) (.slice (some ad127) t124.length co11) t124)∧Aside0 (Below w.heap.size w w'))
         case atStart=>exact⟨(0),zz2,H',⟨Nat.le_refl _⟩,⟨zz9⟩,⟨zz0⟩⟩
         case round=>
          clear H';(try clear c1);(try clear p1);(try clear q1);(try clear hx1);(try clear p2);(try clear c3);(try clear c3b0);(try clear c3b1);(try clear c4);(try clear c7);(try clear c7b0);(try clear c8);(try clear c8b0);(try clear c9);(try clear c9b0);(try clear c9b1);(try clear hx127_0);(try clear p127);(try clear p2);(try clear q127);obtain⟨x5_3,rfl,HA,HK3,HO_3,HB⟩:=hrel
          cases gk with
          |zero=>exact absurd HA.out (by simp[spec_l7host.l1])
          |succ k3=>
           have H:=HA.out;clear HA;simp only[spec_l7host.l1]at H
           by_cases c12:0≤x4_2
           ·rw[if_pos c12]at H;have c12b0:decide (0≤x4_2)=true:=decide_eq_true c12;clear c12
            by_cases c13:x4_2<(t124.length:Int)
            ·rw[if_pos c13]at H;have c13b0:decide (x4_2<(t124.length:Int))=true:=decide_eq_true c13;clear c13
             by_cases c14:x5_3<((rdOf ByteArray.empty t124 x4_2).size:Int)
             ·rw[if_pos c14]at H;have c14b0:decide (x5_3<((rdOf ByteArray.empty t124 x4_2).size:Int))=true:=decide_eq_true c14;clear c14
              by_cases c15:0≤x5_3
              ·rw[if_pos c15]at H;have c15b0:decide (0≤x5_3)=true:=decide_eq_true c15;clear c15;have HC17:=Aside0.mk H;clear H;have p128:0≤(x4_2:Int):=of_decide_eq_true zz3;have q128:x4_2<(t124.length:Int):=of_decide_eq_true zz3;obtain⟨ad128,e128,hx128_0⟩:=Kd.at_string (Kd.R_reads' HO_3.out).2.2 x4_2 p128 q128;obtain rfl:ad127=ad128:=(by injection e128);replace p128:=eq_true p128;replace q128:=eq_true q128;have p129:0≤(x4_2:Int):=of_decide_eq_true zz3;have q129:x4_2<(t124.length:Int):=of_decide_eq_true zz3;obtain⟨ad129,e129,hx129_0⟩:=Kd.at_string (Kd.R_reads' HO_3.out).2.2 x4_2 p129 q129;obtain rfl:ad127=ad129:=(by injection e129);replace p129:=eq_true p129;replace q129:=eq_true q129;have p16:0≤(x5_3:Int):=of_decide_eq_true zz3;have q16:x5_3<((rdOf ByteArray.empty t124 x4_2).size:Int):=of_decide_eq_true zz3;have hx16:=bt_at (rdOf ByteArray.empty t124 x4_2) x5_3;replace p16:=eq_true p16;replace q16:=eq_true q16
               repeat' (first|(go_big_may;(fail))|go_values|go_skip|go_big_skip|go_big_want|((first|(with_reducible refine gate_nog rfl ?_)|(fail_if_success with_reducible refine gate_any ?_));go_step)|go_upon|simp only[Bool.not_true,Bool.not_false,Bool.true_and,Bool.false_and,Bool.true_or,Bool.false_or]|dsimp only)
               have H:=HC17.out;clear HC17
               by_cases c18:(bt (rdOf ByteArray.empty t124 x4_2) x5_3)≥97
               ·rw[if_pos c18]at H;have c18b0:decide (97≤(bt (rdOf ByteArray.empty t124 x4_2) x5_3))=true:=decide_eq_true c18;clear c18;(first|rw[c18b0]|(simp only[i64_w,i32_w];rw[c18b0])|skip)
                by_cases c19:((bt (rdOf ByteArray.empty t124 x4_2) x5_3)≤122)
                ·rw[if_pos c19]at H;have c19b0:decide ((bt (rdOf ByteArray.empty t124 x4_2) x5_3)≤122)=true:=decide_eq_true c19;clear c19;have H':=Aside0.mk H;clear H;go_wp2
                 go_roundg k3
                 (case measure=>have:=HJ1.out;have:=HK2.out;have:=HK3.out;omega);case rel=>exact⟨(wrap64 (x5_3+1)),zz2,H',⟨zz67⟩,⟨zz9⟩,⟨zz0⟩⟩
                ·rw[if_neg c19]at H;have c19b0:decide ((bt (rdOf ByteArray.empty t124 x4_2) x5_3)≤122)=false:=decide_eq_false c19;clear c19;replace H:=Option.bind_eq_some_iff.mp H;obtain⟨t130,A200,H⟩:=H;(try dsimp only at H);have A20:=Aside0.mk A200;clear A200;have HC21:=Aside0.mk H;clear H
                 repeat' (first|(go_big_may;(first|(go_at_call 79;(with_reducible refine(spec_l1digit.calls (bt (rdOf ByteArray.empty t124 x4_2) x5_3) t130 _ A20.out).mono ?_);rintro e w' ⟨rfl,⟨nd,rfl⟩⟩)))|go_values|go_skip|go_big_skip|go_big_want|((first|(with_reducible refine gate_nog rfl ?_)|(fail_if_success with_reducible refine gate_any ?_));go_step)|go_upon|simp only[Bool.not_true,Bool.not_false,Bool.true_and,Bool.false_and,Bool.true_or,Bool.false_or]|dsimp only)
                 (try simp only[Act.put,List.setIfInBounds_toArray,List.set_cons_zero,List.set_cons_succ]);(try(rw[drewN_self wr];generalize hq_:World.drewN wr _=wr;have n0_:Aside0 (Kd.R Kd.string 9 wr w.heap.size (fun _=>True) (.slice (some ad127) t124.length co11) t124):=⟨by rw[←hq_];exact zz9⟩;have n1_:Aside0 (Below w.heap.size w wr):=⟨zz96⟩;clear HO_3 HB hq_;have HO_3:=n0_;have HB:=n1_;clear n0_ n1_));have H:=HC21.out;clear HC21
                 by_cases c22:t130=true
                 ·subst c22;rw[if_pos rfl]at H;have H':=Aside0.mk H;clear H;go_wp2
                  go_roundg k3
                  (case measure=>have:=HJ1.out;have:=HK2.out;have:=HK3.out;omega);case rel=>exact⟨(wrap64 (x5_3+1)),zz2,H',⟨zz67⟩,⟨zz9⟩,⟨zz0⟩⟩
                 ·replace c22:=Bool.eq_false_iff.mpr c22;subst c22;rw[if_neg Bool.false_ne_true]at H
                  by_cases c23:(bt (rdOf ByteArray.empty t124 x4_2) x5_3)=45
                  ·rw[if_pos c23]at H;have c23b0:((bt (rdOf ByteArray.empty t124 x4_2) x5_3)==45)=true:=beq_iff_eq.mpr c23;have c23b1:((bt (rdOf ByteArray.empty t124 x4_2) x5_3)!=45)=false:=bne_eq_false_iff_eq.mpr c23;clear c23;(first|rw[c23b0]|(simp only[i64_w,i32_w];rw[c23b0])|rw[c23b1]|(rw[c23b2];simp only[Bool.not_true,Bool.not_false])|skip);have H':=Aside0.mk H;clear H;go_wp2
                   go_roundg k3
                   (case measure=>have:=HJ1.out;have:=HK2.out;have:=HK3.out;omega);case rel=>exact⟨(wrap64 (x5_3+1)),zz2,H',⟨zz67⟩,⟨zz9⟩,⟨zz0⟩⟩
                  ·rw[if_neg c23]at H;have c23b0:((bt (rdOf ByteArray.empty t124 x4_2) x5_3)==45)=false:=beq_eq_false_iff_ne.mpr c23;have c23b1:((bt (rdOf ByteArray.empty t124 x4_2) x5_3)!=45)=true:=bne_iff_ne.mpr c23;(first|rw[c23b0]|(simp only[i64_w,i32_w];rw[c23b0])|rw[c23b1]|(rw[c23b2];simp only[Bool.not_true,Bool.not_false])|skip);obtain rfl:=Option.some.inj H;go_wp2
                   go_ret;exact⟨zz1,zz0⟩
               ·rw[if_neg c18]at H;have c18b0:decide (97≤(bt (rdOf ByteArray.empty t124 x4_2) x5_3))=false:=decide_eq_false c18;clear c18;(first|rw[c18b0]|(simp only[i64_w,i32_w];rw[c18b0])|skip);replace H:=Option.bind_eq_some_iff.mp H;obtain⟨t131,A240,H⟩:=H;(try dsimp only at H);have A24:=Aside0.mk A240;clear A240;have HC25:=Aside0.mk H;clear H
                repeat' (first|(go_big_may;(first|(go_at_call 79;(with_reducible refine(spec_l1digit.calls (bt (rdOf ByteArray.empty t124 x4_2) x5_3) t131 _ A24.out).mono ?_);rintro e w' ⟨rfl,⟨nd,rfl⟩⟩)))|go_values|go_skip|go_big_skip|go_big_want|((first|(with_reducible refine gate_nog rfl ?_)|(fail_if_success with_reducible refine gate_any ?_));go_step)|go_upon|simp only[Bool.not_true,Bool.not_false,Bool.true_and,Bool.false_and,Bool.true_or,Bool.false_or]|dsimp only)
                (try simp only[Act.put,List.setIfInBounds_toArray,List.set_cons_zero,List.set_cons_succ]);(try(rw[drewN_self wr];generalize hq_:World.drewN wr _=wr;have n0_:Aside0 (Kd.R Kd.string 9 wr w.heap.size (fun _=>True) (.slice (some ad127) t124.length co11) t124):=⟨by rw[←hq_];exact zz9⟩;have n1_:Aside0 (Below w.heap.size w wr):=⟨zz96⟩;clear HO_3 HB hq_;have HO_3:=n0_;have HB:=n1_;clear n0_ n1_));have H:=HC25.out;clear HC25
                by_cases c26:t131=true
                ·subst c26;rw[if_pos rfl]at H;have H':=Aside0.mk H;clear H;go_wp2
                 go_roundg k3
                 (case measure=>have:=HJ1.out;have:=HK2.out;have:=HK3.out;omega);case rel=>exact⟨(wrap64 (x5_3+1)),zz2,H',⟨zz67⟩,⟨zz9⟩,⟨zz0⟩⟩
                ·replace c26:=Bool.eq_false_iff.mpr c26;subst c26;rw[if_neg Bool.false_ne_true]at H
                 by_cases c27:(bt (rdOf ByteArray.empty t124 x4_2) x5_3)=45
                 ·rw[if_pos c27]at H;have c27b0:((bt (rdOf ByteArray.empty t124 x4_2) x5_3)==45)=true:=beq_iff_eq.mpr c27;have c27b1:((bt (rdOf ByteArray.empty t124 x4_2) x5_3)!=45)=false:=bne_eq_false_iff_eq.mpr c27;clear c27;(first|rw[c27b0]|(simp only[i64_w,i32_w];rw[c27b0])|rw[c27b1]|(rw[c27b2];simp only[Bool.not_true,Bool.not_false])|skip);have H':=Aside0.mk H;clear H;go_wp2
                  go_roundg k3
                  (case measure=>have:=HJ1.out;have:=HK2.out;have:=HK3.out;omega);case rel=>exact⟨(wrap64 (x5_3+1)),zz2,H',⟨zz67⟩,⟨zz9⟩,⟨zz0⟩⟩
                 ·rw[if_neg c27]at H;have c27b0:((bt (rdOf ByteArray.empty t124 x4_2) x5_3)==45)=false:=beq_eq_false_iff_ne.mpr c27;have c27b1:((bt (rdOf ByteArray.empty t124 x4_2) x5_3)!=45)=true:=bne_iff_ne.mpr c27;(first|rw[c27b0]|(simp only[i64_w,i32_w];rw[c27b0])|rw[c27b1]|(rw[c27b2];simp only[Bool.not_true,Bool.not_false])|skip);obtain rfl:=Option.some.inj H;go_wp2
                  go_ret;exact⟨zz1,zz0⟩
              ·rw[if_neg c15]at H;exact absurd H (by simp)
             ·rw[if_neg c14]at H;have c14b0:decide (x5_3<((rdOf ByteArray.empty t124 x4_2).size:Int))=false:=decide_eq_false c14;clear c14;have H':=Aside0.mk H;clear H;have p128:0≤(x4_2:Int):=of_decide_eq_true zz3;have q128:x4_2<(t124.length:Int):=of_decide_eq_true zz3;obtain⟨ad128,e128,hx128_0⟩:=Kd.at_string (Kd.R_reads' HO_3.out).2.2 x4_2 p128 q128;obtain rfl:ad127=ad128:=(by injection e128);replace p128:=eq_true p128;replace q128:=eq_true q128;go_wp2
              go_roundg k3
              (case measure=>have:=HJ1.out;have:=HK2.out;have:=HK3.out;omega);case rel=>exact⟨(wrap64 (x4_2+1)),zz2,H',⟨zz67⟩,⟨zz9⟩,⟨zz0⟩⟩
            ·rw[if_neg c13]at H;exact absurd H (by simp)
           ·rw[if_neg c12]at H;exact absurd H (by simp)
       ·rw[if_neg c8]at H;exact absurd H (by simp)
      ·rw[if_neg c7]at H;have c7b0:decide (x4_2<(t124.length:Int))=false:=decide_eq_false c7;clear c7;obtain rfl:=Option.some.inj H;obtain⟨Ao28,co28,eo28⟩:=Kd.R_slice HO_3.out;subst eo28;go_wp2
       go_ret;exact⟨zz1,zz0⟩
/-! ### spec_l6visible: function 126 -/
def spec_l6visible.l0:Nat→ByteArray→Int→Option (Bool)
 |0,_,_=>none
 |k+1,x0,x3=>if x3<(x0.size:Int)then(if 0≤x3 then(if(bt x0 x3)<33 then(some false)else(if(bt x0 x3)>126 then(some false)else(spec_l6visible.l0 k x0 (wrap64 (x3+1)))))else(none))else(some (decide ((x0.size:Int)>0)))
def spec_l6visible.f (k:Nat) (a0:ByteArray):Option (Bool):=spec_l6visible.l0 k a0 0
theorem spec_l6visible.mono_l: ∀k,(∀y0 y1,LeO (spec_l6visible.l0 k y0 y1) (spec_l6visible.l0 (k+1) y0 y1))
 |0=>fun _ _ r h=>by simp[spec_l6visible.l0]at h
 |k+1=>by
  have ih0:=spec_l6visible.mono_l k
  ·intro y0 y1;unfold spec_l6visible.l0
   repeat' first|(with_reducible first|exact ih0 _ _|exact LeO.refl _|exact LeO.none _|refine LeO.ite ?_ ?_|refine LeO.bind ?_ (fun _=>?_))|exact ih0 _ _|exact LeO.none _|refine LeO.ite ?_ ?_|refine LeO.bind ?_ (fun _=>?_)
theorem spec_l6visible.mono: ∀a0 k,LeO (spec_l6visible.f k a0) (spec_l6visible.f (k+1) a0):=by
 intro a0 k;have ih0:=spec_l6visible.mono_l k;unfold spec_l6visible.f
 repeat' first|(with_reducible first|exact ih0 _ _|exact LeO.refl _|exact LeO.none _|refine LeO.ite ?_ ?_|refine LeO.bind ?_ (fun _=>?_))|exact ih0 _ _|exact LeO.none _|refine LeO.ite ?_ ?_|refine LeO.bind ?_ (fun _=>?_)
set_option maxHeartbeats 40000000 in
set_option maxRecDepth 100000 in
theorem spec_l6visible.calls (k : Nat) (a0 : ByteArray) (r : Bool) (w : World) (h : spec_l6visible.f k a0 = some r) :
  Calls Tryz.prog 126 #[.string a0] w fun e w'=>e= .returned (.bool r)∧Drawn0 w w':=by
 have H:(spec_l6visible.l0 k a0 0)=some r:=h;clear h;have H':=Aside0.mk H;clear H;go_enter Tryz.func126,Tryz.ntmps126
 go_wp2
 go_loopg [3] k (fun kq v3 w'=> ∃(x3_1:Int),v3= .int .i64 x3_1∧Aside0 (spec_l6visible.l0 kq a0 x3_1=some r)∧Aside0 (kq≤k)∧Drawn0 w w')
 case atStart=>exact⟨(0),zz2,H',⟨Nat.le_refl _⟩,zz4⟩
 case round=>
  clear H';(try clear c1);obtain⟨x3_1,rfl,HA,HK1,⟨m1,rfl⟩⟩:=hrel
  cases gk with
  |zero=>exact absurd HA.out (by simp[spec_l6visible.l0])
  |succ k1=>
   have H:=HA.out;clear HA;simp only[spec_l6visible.l0]at H
   by_cases c2:x3_1<(a0.size:Int)
   ·rw[if_pos c2]at H;have c2b0:decide (x3_1<(a0.size:Int))=true:=decide_eq_true c2;clear c2
    by_cases c3:0≤x3_1
    ·rw[if_pos c3]at H;have c3b0:decide (0≤x3_1)=true:=decide_eq_true c3;clear c3;have HC5:=Aside0.mk H;clear H;have p4:0≤(x3_1:Int):=of_decide_eq_true zz3;have q4:x3_1<(a0.size:Int):=of_decide_eq_true zz3;have hx4:=bt_at a0 x3_1;replace p4:=eq_true p4;replace q4:=eq_true q4
     repeat' (first|(go_big_may;(fail))|go_values|go_skip|go_big_skip|go_big_want|((first|(with_reducible refine gate_nog rfl ?_)|(fail_if_success with_reducible refine gate_any ?_));go_step)|go_upon|simp only[Bool.not_true,Bool.not_false,Bool.true_and,Bool.false_and,Bool.true_or,Bool.false_or]|dsimp only)
     have H:=HC5.out;clear HC5
     by_cases c6:(bt a0 x3_1)<33
     ·rw[if_pos c6]at H;have c6b0:decide ((bt a0 x3_1)<33)=true:=decide_eq_true c6;clear c6;(first|rw[c6b0]|(simp only[i64_w,i32_w];rw[c6b0])|skip);obtain rfl:=Option.some.inj H;go_wp2
      go_ret;exact⟨zz2,zz4⟩
     ·rw[if_neg c6]at H;have c6b0:decide ((bt a0 x3_1)<33)=false:=decide_eq_false c6;clear c6;(first|rw[c6b0]|(simp only[i64_w,i32_w];rw[c6b0])|skip)
      by_cases c8:(bt a0 x3_1)>126
      ·rw[if_pos c8]at H;have c8b0:decide (126<(bt a0 x3_1))=true:=decide_eq_true c8;clear c8;obtain rfl:=Option.some.inj H;have p7:0≤(x3_1:Int):=of_decide_eq_true zz3;have q7:x3_1<(a0.size:Int):=of_decide_eq_true zz3;have hx7:=bt_at a0 x3_1;replace p7:=eq_true p7;replace q7:=eq_true q7;go_wp2
       go_ret;exact⟨zz2,zz4⟩
      ·rw[if_neg c8]at H;have c8b0:decide (126<(bt a0 x3_1))=false:=decide_eq_false c8;clear c8;have H':=Aside0.mk H;clear H;have p7:0≤(x3_1:Int):=of_decide_eq_true zz3;have q7:x3_1<(a0.size:Int):=of_decide_eq_true zz3;have hx7:=bt_at a0 x3_1;replace p7:=eq_true p7;replace q7:=eq_true q7;go_wp2
       go_roundg k1
       (case measure=>have:=HK1.out;omega);case rel=>exact⟨(wrap64 (x3_1+1)),zz2,H',⟨zz49⟩,zz4⟩
    ·rw[if_neg c3]at H;exact absurd H (by simp)
   ·rw[if_neg c2]at H;have c2b0:decide (x3_1<(a0.size:Int))=false:=decide_eq_false c2;clear c2;obtain rfl:=Option.some.inj H;go_wp2
    go_ret;exact⟨zz2,zz4⟩
/-! ### spec_l1lower: function 129 -/
def spec_l1lower.f (a0:Int):Option (Int):=if a0≥65 then(if a0≤90 then(some ((a0+32)%256))else(some a0))else(some a0)
set_option maxHeartbeats 40000000 in
set_option maxRecDepth 100000 in
theorem spec_l1lower.calls (a0 : Int) (r : Int) (w : World) (h : spec_l1lower.f a0 = some r) :
  Calls Tryz.prog 129 #[.int .u8 a0] w fun e w'=>e= .returned (.int .u8 r)∧Drawn0 w w':=by
 have H:(if a0≥65 then(if a0≤90 then(some ((a0+32)%256))else(some a0))else(some a0))=some r:=h;clear h
 by_cases c2:a0≥65
 ·rw[if_pos c2]at H;have c2b0:decide (65≤a0)=true:=decide_eq_true c2;clear c2
  by_cases c3:a0≤90
  ·rw[if_pos c3]at H;have c3b0:decide (a0≤90)=true:=decide_eq_true c3;clear c3;obtain rfl:=Option.some.inj H;go_enter Tryz.func129,Tryz.ntmps129
   go_wp2
   go_ret;exact⟨zz2,zz4⟩
  ·rw[if_neg c3]at H;have c3b0:decide (a0≤90)=false:=decide_eq_false c3;clear c3;obtain rfl:=Option.some.inj H;go_enter Tryz.func129,Tryz.ntmps129
   go_wp2
   go_ret;exact⟨zz2,zz4⟩
 ·rw[if_neg c2]at H;have c2b0:decide (65≤a0)=false:=decide_eq_false c2;clear c2;obtain rfl:=Option.some.inj H;go_enter Tryz.func129,Tryz.ntmps129
  go_wp2
  go_ret;exact⟨zz2,zz4⟩
/-! ### spec_ReadHex: function 175 -/
mutual
def spec_ReadHex.j0:Nat→ByteArray→Bool→Option (Int×Bool)
 |0,_,_=>none
 |k+1,x0,x14=>if x14=true then(some (0,false))else(spec_ReadHex.l0 k x0 0 0)
def spec_ReadHex.l0:Nat→ByteArray→Int→Int→Option (Int×Bool)
 |0,_,_,_=>none
 |k+1,x0,x4,x5=>if x5<(x0.size:Int)then(if 0≤x5 then((spec_l1lower.f (bt x0 x5)).bind fun t132=>((spec_l1digit.f t132).bind fun t133=>(if t133=true then(spec_ReadHex.l0 k x0 (wrap64 ((wrap64 (x4*16))+((t132-48)%256))) (wrap64 (x5+1)))else(if t132≥97 then(if t132≤102 then(spec_ReadHex.l0 k x0 (wrap64 ((wrap64 ((wrap64 (x4*16))+((t132-97)%256)))+10)) (wrap64 (x5+1)))else(some (0,false)))else(some (0,false))))))else(none))else(some (x4,true))
end
def spec_ReadHex.f (k:Nat) (a0:ByteArray):Option (Int×Bool):=if(a0.size:Int)=0 then(spec_ReadHex.j0 k a0 true)else(spec_ReadHex.j0 k a0 (decide ((a0.size:Int)>7)))
theorem spec_ReadHex.mono_l: ∀k,(∀y0 y1,LeO (spec_ReadHex.j0 k y0 y1) (spec_ReadHex.j0 (k+1) y0 y1))∧(∀y0 y1 y2,LeO (spec_ReadHex.l0 k y0 y1 y2) (spec_ReadHex.l0 (k+1) y0 y1 y2))
 |0=>⟨fun _ _ r h=>by simp[spec_ReadHex.j0]at h,fun _ _ _ r h=>by simp[spec_ReadHex.l0]at h⟩
 |k+1=>by
  obtain⟨ih0,ih1⟩:=spec_ReadHex.mono_l k;refine⟨?_,?_⟩
  ·intro y0 y1;unfold spec_ReadHex.j0
   repeat' first|(with_reducible first|exact ih0 _ _|exact ih1 _ _ _|exact LeO.refl _|exact LeO.none _|refine LeO.ite ?_ ?_|refine LeO.bind ?_ (fun _=>?_))|exact ih0 _ _|exact ih1 _ _ _|exact LeO.none _|refine LeO.ite ?_ ?_|refine LeO.bind ?_ (fun _=>?_)
  ·intro y0 y1 y2;unfold spec_ReadHex.l0
   repeat' first|(with_reducible first|exact ih0 _ _|exact ih1 _ _ _|exact LeO.refl _|exact LeO.none _|refine LeO.ite ?_ ?_|refine LeO.bind ?_ (fun _=>?_))|exact ih0 _ _|exact ih1 _ _ _|exact LeO.none _|refine LeO.ite ?_ ?_|refine LeO.bind ?_ (fun _=>?_)
theorem spec_ReadHex.mono: ∀a0 k,LeO (spec_ReadHex.f k a0) (spec_ReadHex.f (k+1) a0):=by
 intro a0 k;obtain⟨ih0,ih1⟩:=spec_ReadHex.mono_l k;unfold spec_ReadHex.f
 repeat' first|(with_reducible first|exact ih0 _ _|exact ih1 _ _ _|exact LeO.refl _|exact LeO.none _|refine LeO.ite ?_ ?_|refine LeO.bind ?_ (fun _=>?_))|exact ih0 _ _|exact ih1 _ _ _|exact LeO.none _|refine LeO.ite ?_ ?_|refine LeO.bind ?_ (fun _=>?_)
set_option maxHeartbeats 40000000 in
set_option maxRecDepth 100000 in
theorem spec_ReadHex.calls (k : Nat) (a0 : ByteArray) (r1 : Int) (r2 : Bool) (w : World) (h : spec_ReadHex.f k a0 = some (r1, r2)) :
  Calls Tryz.prog 175 #[.string a0] w fun e w'=>e= .returned (.tuple #[.int .i64 r1,.bool r2])∧Drawn0 w w':=by
 have H:(if(a0.size:Int)=0 then(spec_ReadHex.j0 k a0 true)else(spec_ReadHex.j0 k a0 (decide ((a0.size:Int)>7))))=some (r1,r2):=h;clear h;have HC2:=Aside0.mk H;clear H;go_enter Tryz.func175,Tryz.ntmps175
 go_upto_region 1 with(fail)
 go_cut [14] (fun v14 wc=> ∃(kq:Nat) (x14_1:Bool),v14= .bool x14_1∧Aside0 (spec_ReadHex.j0 kq a0 x14_1=some (r1,r2))∧Aside0 (kq≤k)∧Drawn0 w wc)
 case first=>
  have H:=HC2.out;clear HC2
  by_cases c3:(a0.size:Int)=0
  ·rw[if_pos c3]at H;have c3b0:((a0.size:Int)==0)=true:=beq_iff_eq.mpr c3;have c3b1:((a0.size:Int)!=0)=false:=bne_eq_false_iff_eq.mpr c3;clear c3;(first|rw[c3b0]|(simp only[i64_w,i32_w];rw[c3b0])|rw[c3b1]|(rw[c3b2];simp only[Bool.not_true,Bool.not_false])|skip);have H':=Aside0.mk H;clear H;go_wp2
   go_meet
   case rel=>exact⟨_,(true),zz2,H',⟨zz24⟩,zz4⟩
  ·rw[if_neg c3]at H;have c3b0:((a0.size:Int)==0)=false:=beq_eq_false_iff_ne.mpr c3;have c3b1:((a0.size:Int)!=0)=true:=bne_iff_ne.mpr c3;(first|rw[c3b0]|(simp only[i64_w,i32_w];rw[c3b0])|rw[c3b1]|(rw[c3b2];simp only[Bool.not_true,Bool.not_false])|skip);have H':=Aside0.mk H;clear H;go_wp2
   go_meet
   case rel=>exact⟨_,(decide ((a0.size:Int)>7)),zz2,H',⟨zz24⟩,zz4⟩
 case rest=>
  clear HC2;(try clear c1);(try clear p2);(try clear c3);(try clear c3b0);(try clear c3b1);obtain⟨kq,x14_1,rfl,HA,HJ1,⟨mc1,rfl⟩⟩:=hcut
  cases kq with
  |zero=>exact absurd HA.out (by simp[spec_ReadHex.j0])
  |succ kj1=>
   have H:=HA.out;clear HA;simp only[spec_ReadHex.j0]at H
   by_cases c4:x14_1=true
   ·subst c4;rw[if_pos rfl]at H;simp only[Option.some.injEq,Prod.mk.injEq]at H;obtain⟨rfl,rfl⟩:=H;go_wp2
    go_ret2
    exact⟨zz2,zz4⟩
   ·replace c4:=Bool.eq_false_iff.mpr c4;subst c4;rw[if_neg Bool.false_ne_true]at H;have H':=Aside0.mk H;clear H;go_wp2
    go_loopg [4,5] kj1 (fun kq v4 v5 w'=> ∃(x4_2:Int) (x5_2:Int),v4= .int .i64 x4_2∧v5= .int .i64 x5_2∧Aside0 (spec_ReadHex.l0 kq a0 x4_2 x5_2=some (r1,r2))∧Aside0 (kq≤kj1)∧Drawn0 w w')
    case atStart=>exact⟨(0),(0),zz2,zz2,H',⟨Nat.le_refl _⟩,zz4⟩
    case round=>
     clear H';(try clear c1);(try clear p2);(try clear c3);(try clear c3b0);(try clear c3b1);(try clear c4);(try clear p2);obtain⟨x4_2,x5_2,rfl,rfl,HA,HK2,⟨m2,rfl⟩⟩:=hrel
     cases gk with
     |zero=>exact absurd HA.out (by simp[spec_ReadHex.l0])
     |succ k2=>
      have H:=HA.out;clear HA;simp only[spec_ReadHex.l0]at H
      by_cases c5:x5_2<(a0.size:Int)
      ·rw[if_pos c5]at H;have c5b0:decide (x5_2<(a0.size:Int))=true:=decide_eq_true c5;clear c5
       by_cases c6:0≤x5_2
       ·rw[if_pos c6]at H;have c6b0:decide (0≤x5_2)=true:=decide_eq_true c6;clear c6;replace H:=Option.bind_eq_some_iff.mp H;obtain⟨t132,A80,H⟩:=H;(try dsimp only at H);have A8:=Aside0.mk A80;clear A80;replace H:=Option.bind_eq_some_iff.mp H;obtain⟨t133,A90,H⟩:=H;(try dsimp only at H);have A9:=Aside0.mk A90;clear A90;have HC10:=Aside0.mk H;clear H;have p7:0≤(x5_2:Int):=of_decide_eq_true zz3;have q7:x5_2<(a0.size:Int):=of_decide_eq_true zz3;have hx7:=bt_at a0 x5_2;replace p7:=eq_true p7;replace q7:=eq_true q7;go_upto_if 25 with(first|((with_reducible refine gate_callee (f:=129) rfl ?_);refine goesR_ 24 Tryz.func129 #[.int .u8 (bt a0 x5_2)] (spec_l1lower.calls (bt a0 x5_2) t132 _ A8.out) ?_;rintro w' ⟨nd,rfl⟩)|((with_reducible refine gate_callee (f:=79) rfl ?_);refine goesR_ 27 Tryz.func79 #[.int .u8 t132] (spec_l1digit.calls t132 t133 _ A9.out) ?_;rintro w' ⟨nd,rfl⟩))
        (try simp only[Act.put,List.setIfInBounds_toArray,List.set_cons_zero,List.set_cons_succ]);have H:=HC10.out;clear HC10
        by_cases c11:t133=true
        ·subst c11;rw[if_pos rfl]at H;have H':=Aside0.mk H;clear H;go_wp2
         go_roundg k2
         (case measure=>have:=HJ1.out;have:=HK2.out;omega);case rel=>exact⟨(wrap64 ((wrap64 (x4_2*16))+((t132-48)%256))),(wrap64 (x5_2+1)),zz2,zz2,H',⟨zz69⟩,zz4⟩
        ·replace c11:=Bool.eq_false_iff.mpr c11;subst c11;rw[if_neg Bool.false_ne_true]at H
         by_cases c12:t132≥97
         ·rw[if_pos c12]at H;have c12b0:decide (97≤t132)=true:=decide_eq_true c12;clear c12;(first|rw[c12b0]|(simp only[i64_w,i32_w];rw[c12b0])|skip)
          by_cases c13:t132≤102
          ·rw[if_pos c13]at H;have c13b0:decide (t132≤102)=true:=decide_eq_true c13;clear c13;have H':=Aside0.mk H;clear H;go_wp2
           go_roundg k2
           (case measure=>have:=HJ1.out;have:=HK2.out;omega);case rel=>exact⟨(wrap64 ((wrap64 ((wrap64 (x4_2*16))+((t132-97)%256)))+10)),(wrap64 (x5_2+1)),zz2,zz2,H',⟨zz69⟩,zz4⟩
          ·rw[if_neg c13]at H;have c13b0:decide (t132≤102)=false:=decide_eq_false c13;clear c13;simp only[Option.some.injEq,Prod.mk.injEq]at H;obtain⟨rfl,rfl⟩:=H;go_wp2
           go_ret2
           exact⟨zz2,zz4⟩
         ·rw[if_neg c12]at H;have c12b0:decide (97≤t132)=false:=decide_eq_false c12;clear c12;(first|rw[c12b0]|(simp only[i64_w,i32_w];rw[c12b0])|skip);simp only[Option.some.injEq,Prod.mk.injEq]at H;obtain⟨rfl,rfl⟩:=H;go_wp2
          go_ret2
          exact⟨zz2,zz4⟩
       ·rw[if_neg c6]at H;exact absurd H (by simp)
      ·rw[if_neg c5]at H;have c5b0:decide (x5_2<(a0.size:Int))=false:=decide_eq_false c5;clear c5;simp only[Option.some.injEq,Prod.mk.injEq]at H;obtain⟨rfl,rfl⟩:=H;go_wp2
       go_ret2
       exact⟨zz2,zz4⟩
end Go.Proofs.YteojcbbifacpnaaGreatDoor.GFnExactIndexOk
