-- Printed by gen.py and its programs for this claim.
import Derived.Test.YtgkipkifkobjnaaGreatDoorGFnExactRecOkx0
import Derived.Test.YtgkipkifkobjnaaGreatDoorGFnExactRecOkx24
import Derived.Test.YtgkipkifkobjnaaGreatDoorGFnExactRecOkx26
import Derived.Test.YtgkipkifkobjnaaGreatDoorZFnExactRecOk
namespace Go.Proofs.YtgkipkifkobjnaaGreatDoor.GFnExactRecOk
open Go.RowKit Go.Proofs.YtgkipkifkobjnaaGreatDoorW.PrintWords Go.Proofs.YtgkipkifkobjnaaGreatDoorW.PrintLast Go.Proofs.YtgkipkifkobjnaaGreatDoorW.PrintMore Go.Proofs.YtgkipkifkobjnaaGreatDoorW.Zs
set_option maxHeartbeats 40000000
set_option maxRecDepth 100000
attribute [local go_sem] max2_int min2_int max_two min_two max_three min_three max_four min_four
set_option linter.unusedVariables false
set_option linter.unusedSimpArgs false
mutual
def impl_ShaEnd.l0:Nat→ByteArray→List Int→ByteArray→Int→Option (ByteArray)
 |0,_,_,_,_=>none
 |k+1,x3,x496000,x496001,x496002=>if((x3.size:Int)%64)=56 then((impl_bigEndian.f k (wrap64 (8*x496002)) 8).bind fun t497=>(if x3.size+t497.size≤9223372036854775807 then(impl_ShaEnd.l1 k (x3++t497) x496000)else(none)))else(if x3.size+1≤9223372036854775807 then(impl_ShaEnd.l0 k (x3++(⟨#[0]⟩:ByteArray)) x496000 x496001 x496002)else(none))
def impl_ShaEnd.l1:Nat→ByteArray→List Int→Option (ByteArray)
 |0,_,_=>none
 |k+1,x3,x4=>if x3.toList=([]:List UInt8)then(impl_ShaEnd.l2 k (⟨#[]⟩:ByteArray) x4 (x4.length:Int) 0)else(if 0≤64 then(if 64≤(x3.size:Int)then((impl_Compress.f k x4 (x3.extract 0 64)).bind fun t498=>(impl_ShaEnd.l1 k (x3.extract 64 x3.size) t498))else(none))else(none))
def impl_ShaEnd.l2:Nat→ByteArray→List Int→Int→Int→Option (ByteArray)
 |0,_,_,_,_=>none
 |k+1,x5,x36,x37,x38=>if x38<x37 then(if 0≤x38 then(if x38<(x36.length:Int)then((impl_bigEndian.f k (rd x36 x38) 4).bind fun t502=>(if x5.size+t502.size≤9223372036854775807 then(impl_ShaEnd.l2 k (x5++t502) x36 x37 (wrap64 (x38+1)))else(none)))else(none))else(none))else(some x5)
end
def impl_ShaEnd.f (k:Nat) (l0_0:List Int) (a0_1:ByteArray) (a0_2:Int):Option (ByteArray):=(impl_ShaOk.f k l0_0 a0_1 a0_2).bind fun t496=>(if t496=true then(if a0_1.size+1≤9223372036854775807 then(impl_ShaEnd.l0 k (a0_1++(⟨#[128]⟩:ByteArray)) l0_0 a0_1 a0_2)else(none))else(some (⟨#[]⟩:ByteArray)))
theorem impl_ShaEnd.calls (k:Nat) (P0_0_:Nat→Prop) (A0_0:Option Addr) (c0_0:Nat) (l0_0:List Int) (a0_1:ByteArray) (a0_2:Int) (r:ByteArray) (w:World) (hs0_0:Kd.V (Kd.int .i64) 3 w w.heap.size (fun k_=>P0_0_ k_) (.slice A0_0 l0_0.length c0_0) l0_0) (h:impl_ShaEnd.f k l0_0 a0_1 a0_2=some r):
  Calls Tryz.prog 41 #[.agg #[.slice A0_0 l0_0.length c0_0,.string a0_1,.int .i64 a0_2]] w fun e w'=>e= .returned (.string r)∧Below w.heap.size w w':=by
 have hu50:=Tryz.underlying50;have HO0_0:=Aside0.mk (show Kd.V (Kd.int .i64) 3 w w.heap.size (fun k_=>(P0_0_ k_∨w.heap.size≤k_)) (.slice A0_0 l0_0.length c0_0) l0_0 from Kd.V_mono hs0_0 (fun k_ hk=> .inl hk));have HB:=Aside0.mk (Below.refl w.heap.size w);have H:((impl_ShaOk.f k l0_0 a0_1 a0_2).bind fun t496=>(if t496=true then(if a0_1.size+1≤9223372036854775807 then(impl_ShaEnd.l0 k (a0_1++(⟨#[128]⟩:ByteArray)) l0_0 a0_1 a0_2)else(none))else(some (⟨#[]⟩:ByteArray))))=some r:=h;clear h;replace H:=Option.bind_eq_some_iff.mp H;obtain⟨t496,A20,H⟩:=H;(try dsimp only at H);have A2:=Aside0.mk A20;clear A20;have HC3:=Aside0.mk H;clear H;go_enter Tryz.func41,Tryz.ntmps41
 go_upto_if 10 with(first|((with_reducible refine gate_dst (N:=1) rfl ?_);refine boxP_ (N:=1) (cs:= #[.slice A0_0 l0_0.length c0_0,.string a0_1,.int .i64 a0_2]) (t:=50) ?_;intro gb495 hg w4 hbox hb;replace HO0_0:=Aside0.mk (Kd.V_below (Kd.V_elderB zz87 gb495 (Nat.le_of_eq hg.symm)) hb);have BK495:=Aside0.mk (hbox);have GE495:=geb_ (w:=w) hg zz0;replace HB:=Aside0.mk (below_step zz0 hb);clear hb hbox hg;obtain⟨_,_,_,_,_,_⟩:=cells3_ BK495.out)|((with_reducible refine gate_callee (f:=71) rfl ?_);refine goesQ_ 9 Tryz.func71 #[.agg #[.slice A0_0 l0_0.length c0_0,.string a0_1,.int .i64 a0_2]] ?_;(with_reducible refine(impl_ShaOk.calls k _ _ l0_0 a0_1 a0_2 t496 _ ?side1 ?side2 A2.out).mono ?_);(case side1=>repeat(first|exact(Kd.V_reads' HO0_0.out).2.2|(with_reducible refine Kd.C_alloc ?_ _)|(with_reducible refine Kd.C_drewN ?_ _)|(with_reducible refine Kd.C_drew ?_)));(case side2=>exact(Kd.V_reads' HO0_0.out).2.1);rintro e w6 ⟨rfl,hb⟩;refine⟨_,rfl,?_⟩;replace HO0_0:=Aside0.mk (Kd.V_below zz87 hb);replace BK495:=Aside0.mk (blk_below zz38 hb);replace HB:=Aside0.mk (below_step zz22 hb);(try clear hb)))
 (try simp only[Act.put,List.setIfInBounds_toArray,List.set_cons_zero,List.set_cons_succ]);have H:=HC3.out;clear HC3
 by_cases c7:t496=true
 ·as_aux_lemma=>
  subst c7;rw[if_pos rfl]at H
  by_cases c8:a0_1.size+1≤9223372036854775807
  ·as_aux_lemma=>
   rw[if_pos c8]at H;have c8b0:=eq_true c8;have c8b1:decide (a0_1.size+1≤9223372036854775807)=true:=decide_eq_true c8;(try have c8b2:(9223372036854775807<a0_1.size+1)=False:=eq_false (Nat.not_lt.2 c8));have H':=Aside0.mk H;clear H;obtain⟨_,_,_,_,_,_⟩:=cells3_ BK495.out;go_wp2
   go_loopg [3] k (fun kq v3 w'=> ∃(x3_1:ByteArray),v3= .string x3_1∧Aside0 (impl_ShaEnd.l0 kq x3_1 l0_0 a0_1 a0_2=some r)∧Aside0 (kq≤k)∧Aside0 (Kd.V (Kd.int .i64) 3 w' w.heap.size (fun k_=>(P0_0_ k_∨w.heap.size≤k_)∧k_≠gb495) (.slice A0_0 l0_0.length c0_0) l0_0)∧Aside0 (w'.heap[gb495]?=some (.cells #[(.slice A0_0 l0_0.length c0_0),.string a0_1,.int .i64 a0_2] 50 (0,0)))∧Aside0 (Below w.heap.size w w'))
   case atStart=>exact⟨(a0_1++(⟨#[128]⟩:ByteArray)),zz1,H',⟨Nat.le_refl _⟩,⟨zz87⟩,⟨zz38⟩,⟨zz22⟩⟩
   case round=>as_aux_lemma=>
    clear H';(try clear p2);(try clear c4);(try clear c7);(try clear c8);(try clear c8b0);(try clear c8b1);(try clear c8b2);(try clear hcz5_0);(try clear hcz5_1);(try clear hcz5_2);(try clear hcz9_0);(try clear hcz9_1);(try clear hcz9_2);(try clear hfz5_0);(try clear hfz5_1);(try clear hfz5_2);(try clear hfz9_0);(try clear hfz9_1);(try clear hfz9_2);obtain⟨x3_1,rfl,HA,HK1,HO_496000,BK495,HB⟩:=hrel
    cases gk with
    |zero=>exact absurd HA.out (by simp[impl_ShaEnd.l0])
    |succ k1=>
     have H:=HA.out;clear HA;simp only[impl_ShaEnd.l0]at H
     by_cases c10:((x3_1.size:Int)%64)=56
     ·as_aux_lemma=>
      rw[if_pos c10]at H;have c10b0:(((x3_1.size:Int)%64)==56)=true:=beq_iff_eq.mpr c10;have c10b1:(((x3_1.size:Int)%64)!=56)=false:=bne_eq_false_iff_eq.mpr c10;clear c10;(first|rw[c10b0]|(simp only[i64_w,i32_w];rw[c10b0])|rw[c10b1]|(rw[c10b2];simp only[Bool.not_true,Bool.not_false])|skip);replace H:=Option.bind_eq_some_iff.mp H;obtain⟨t497,A110,H⟩:=H;(try dsimp only at H);have A11:=Aside0.mk A110;clear A110
      by_cases c12:x3_1.size+t497.size≤9223372036854775807
      ·as_aux_lemma=>
       rw[if_pos c12]at H;have c12b0:=eq_true c12;have c12b1:decide (x3_1.size+t497.size≤9223372036854775807)=true:=decide_eq_true c12;(try have c12b2:(9223372036854775807<x3_1.size+t497.size)=False:=eq_false (Nat.not_lt.2 c12));have H':=Aside0.mk H;clear H;obtain⟨_,_,_,_,_,_⟩:=cells3_ BK495.out;go_wp2_with (first|((with_reducible refine gate_callee (f:=72) rfl ?_);refine goesR_ 24 Tryz.func72 #[.int .i64 (wrap64 (8*a0_2)),.int .i64 8] (impl_bigEndian.calls k1 (wrap64 (8*a0_2)) 8 t497 _ A11.out) ?_;rintro w14 hb;replace HO_496000:=Aside0.mk (Kd.V_below zz41 hb);replace BK495:=Aside0.mk (blk_below zz38 hb);replace HB:=Aside0.mk (below_step zz22 hb);(try clear hb);obtain⟨_,_,_,_,_,_⟩:=cells3_ BK495.out))
       go_loopg [3,4] k1 (fun kq v3 v4 w'=> ∃(x3_2:ByteArray) (x4_2:List Int),v3= .string x3_2∧Aside0 (impl_ShaEnd.l1 kq x3_2 x4_2=some r)∧Aside0 (kq≤k1)∧Aside0 (Kd.V (Kd.int .i64) 3 w' w.heap.size (fun k_=>(P0_0_ k_∨w.heap.size≤k_)∧k_≠gb495) v4 x4_2)∧Aside0 (Kd.V (Kd.int .i64) 3 w' w.heap.size (fun k_=>(P0_0_ k_∨w.heap.size≤k_)∧k_≠gb495) (.slice A0_0 l0_0.length c0_0) l0_0)∧Aside0 (w'.heap[gb495]?=some (.cells #[(.slice A0_0 l0_0.length c0_0),.string a0_1,.int .i64 a0_2] 50 (0,0)))∧Aside0 (Below w.heap.size w w'))
       case atStart=>exact⟨(x3_1++t497),(l0_0),zz1,H',⟨Nat.le_refl _⟩,⟨zz41⟩,⟨zz41⟩,⟨zz38⟩,⟨zz22⟩⟩
       case round=>as_aux_lemma=>
        clear H';(try clear c1);(try clear p2);(try clear c4);(try clear p6);(try clear c7);(try clear c8);(try clear c8b0);(try clear c8b1);(try clear c8b2);(try clear c10);(try clear c10b0);(try clear c10b1);(try clear c12);(try clear c12b0);(try clear c12b1);(try clear c12b2);(try clear hcz13_0);(try clear hcz13_1);(try clear hcz13_2);(try clear hcz15_0);(try clear hcz15_1);(try clear hcz15_2);(try clear hcz5_0);(try clear hcz5_1);(try clear hcz5_2);(try clear hcz9_0);(try clear hcz9_1);(try clear hcz9_2);(try clear hfz13_0);(try clear hfz13_1);(try clear hfz13_2);(try clear hfz15_0);(try clear hfz15_1);(try clear hfz15_2);(try clear hfz5_0);(try clear hfz5_1);(try clear hfz5_2);(try clear hfz9_0);(try clear hfz9_1);(try clear hfz9_2);(try clear p2);obtain⟨x3_2,x4_2,rfl,HA,HK2,HO_4,HO_496000,BK495,HB⟩:=hrel
        cases gk with
        |zero=>exact absurd HA.out (by simp[impl_ShaEnd.l1])
        |succ k2=>
         have H:=HA.out;clear HA;simp only[impl_ShaEnd.l1]at H
         by_cases c16:x3_2.toList=([]:List UInt8)
         ·rw[if_pos c16]at H;have c16b0:(x3_2.toList==([]:List UInt8))=true:=beq_iff_eq.mpr c16;have c16e:x3_2.toList.isEmpty=true:=by have hz_:=beq_iff_eq.1 c16b0;rw[hz_];rfl
          (try rw[c16e]);have c16b1:(x3_2.toList !=([]:List UInt8))=false:=bne_eq_false_iff_eq.mpr c16;clear c16;have H':=Aside0.mk H;clear H;obtain⟨Ao17,co17,eo17⟩:=Kd.V_slice HO_4.out;subst eo17;go_wp2
          go_loopg [5,38] k2 (fun kq v5 v38 w'=> ∃(x5_3:ByteArray) (x38_3:Int),v5= .string x5_3∧v38= .int .i64 x38_3∧Aside0 (impl_ShaEnd.l2 kq x5_3 x4_2 (x4_2.length:Int) x38_3=some r)∧Aside0 (kq≤k2)∧Aside0 (Kd.V (Kd.int .i64) 3 w' w.heap.size (fun k_=>(P0_0_ k_∨w.heap.size≤k_)∧k_≠gb495) (.slice Ao17 x4_2.length co17) x4_2)∧Aside0 (Kd.V (Kd.int .i64) 3 w' w.heap.size (fun k_=>(P0_0_ k_∨w.heap.size≤k_)∧k_≠gb495) (.slice A0_0 l0_0.length c0_0) l0_0)∧Aside0 (w'.heap[gb495]?=some (.cells #[(.slice A0_0 l0_0.length c0_0),.string a0_1,.int .i64 a0_2] 50 (0,0)))∧Aside0 (Below w.heap.size w w'))
          case atStart=>exact⟨((⟨#[]⟩:ByteArray)),(0),zz1,zz1,H',⟨Nat.le_refl _⟩,⟨by(with_reducible repeat(first|apply Kd.V_alloc|apply Kd.V_drewN|apply Kd.V_drew));exact HO_4.out⟩,⟨zz41⟩,⟨zz38⟩,⟨zz22⟩⟩
          case round=>
           clear H';(try clear c1);(try clear p2);(try clear c4);(try clear p6);(try clear c7);(try clear c8);(try clear c8b0);(try clear c8b1);(try clear c8b2);(try clear c10);(try clear c10b0);(try clear c10b1);(try clear c12);(try clear c12b0);(try clear c12b1);(try clear c12b2);(try clear c16);(try clear c16b0);(try clear c16b1);(try clear hcz13_0);(try clear hcz13_1);(try clear hcz13_2);(try clear hcz15_0);(try clear hcz15_1);(try clear hcz15_2);(try clear hcz5_0);(try clear hcz5_1);(try clear hcz5_2);(try clear hcz9_0);(try clear hcz9_1);(try clear hcz9_2);(try clear hfz13_0);(try clear hfz13_1);(try clear hfz13_2);(try clear hfz15_0);(try clear hfz15_1);(try clear hfz15_2);(try clear hfz5_0);(try clear hfz5_1);(try clear hfz5_2);(try clear hfz9_0);(try clear hfz9_1);(try clear hfz9_2);(try clear p2);(try clear p6);obtain⟨x5_3,x38_3,rfl,rfl,HA,HK3,HO_36,HO_496000,BK495,HB⟩:=hrel
           cases gk with
           |zero=>exact absurd HA.out (by simp[impl_ShaEnd.l2])
           |succ k3=>
            have H:=HA.out;clear HA;simp only[impl_ShaEnd.l2]at H
            by_cases c18:x38_3<(x4_2.length:Int)
            ·rw[if_pos c18]at H;have c18b0:decide (x38_3<(x4_2.length:Int))=true:=decide_eq_true c18;clear c18
             by_cases c19:0≤x38_3
             ·rw[if_pos c19]at H;have c19b0:decide (0≤x38_3)=true:=decide_eq_true c19;clear c19
              by_cases c20:x38_3<(x4_2.length:Int)
              ·rw[if_pos c20]at H;have c20b0:decide (x38_3<(x4_2.length:Int))=true:=decide_eq_true c20;clear c20;replace H:=Option.bind_eq_some_iff.mp H;obtain⟨t502,A210,H⟩:=H;(try dsimp only at H);have A21:=Aside0.mk A210;clear A210
               by_cases c22:x5_3.size+t502.size≤9223372036854775807
               ·rw[if_pos c22]at H;have c22b0:=eq_true c22;have c22b1:decide (x5_3.size+t502.size≤9223372036854775807)=true:=decide_eq_true c22;(try have c22b2:(9223372036854775807<x5_3.size+t502.size)=False:=eq_false (Nat.not_lt.2 c22));have H':=Aside0.mk H;clear H;have p501:0≤(x38_3:Int):=of_decide_eq_true zz3;have q501:x38_3<(x4_2.length:Int):=of_decide_eq_true zz3;obtain⟨ad501,e501,hx501_0⟩:=Kd.at_int (Kd.V_reads' HO_36.out).2.2 x38_3 p501 q501;cases e501;replace p501:=eq_true p501;replace q501:=eq_true q501;go_wp2_with (first|((with_reducible refine gate_callee (f:=72) rfl ?_);refine goesR_ 44 Tryz.func72 #[.int .i64 (rd x4_2 x38_3),.int .i64 4] (impl_bigEndian.calls k3 (rd x4_2 x38_3) 4 t502 _ A21.out) ?_;rintro w23 hb;replace HO_36:=Aside0.mk (Kd.V_below (by(with_reducible repeat(first|apply Kd.V_alloc|apply Kd.V_drewN|apply Kd.V_drew));exact HO_36.out) hb);replace HO_496000:=Aside0.mk (Kd.V_below zz41 hb);replace BK495:=Aside0.mk (blk_below zz38 hb);replace HB:=Aside0.mk (below_step zz22 hb);(try clear hb)))
                go_roundg k3
                (case measure=>have:=HK1.out;have:=HK2.out;have:=HK3.out;omega);case rel=>exact⟨(x5_3++t502),(wrap64 (x38_3+1)),zz1,zz1,H',⟨by have:=HK1.out;have:=HK2.out;have:=HK3.out;omega⟩,⟨by(with_reducible repeat(first|apply Kd.V_alloc|apply Kd.V_drewN|apply Kd.V_drew));exact HO_36.out⟩,⟨zz41⟩,⟨zz38⟩,⟨zz22⟩⟩
               ·rw[if_neg c22]at H;exact absurd H (by simp)
              ·rw[if_neg c20]at H;exact absurd H (by simp)
             ·rw[if_neg c19]at H;exact absurd H (by simp)
            ·rw[if_neg c18]at H;have c18b0:decide (x38_3<(x4_2.length:Int))=false:=decide_eq_false c18;clear c18;obtain rfl:=Option.some.inj H;go_wp2
             go_ret;exact⟨zz2,zz22⟩
         ·rw[if_neg c16]at H;have c16b0:(x3_2.toList==([]:List UInt8))=false:=beq_eq_false_iff_ne.mpr c16;have c16e:x3_2.toList.isEmpty=false:=by cases hz_:x3_2.toList with|nil=>(rw[hz_]at c16b0;exact absurd c16b0 (by decide))|cons _ _=>rfl
          (try rw[c16e]);have c16b1:(x3_2.toList !=([]:List UInt8))=true:=bne_iff_ne.mpr c16
          by_cases c24:0≤64
          ·rw[if_pos c24]at H;have c24b0:=eq_true c24;have c24b1:decide (0≤64)=true:=decide_eq_true c24;clear c24
           by_cases c25:64≤(x3_2.size:Int)
           ·rw[if_pos c25]at H;have c25b0:=eq_true c25;have c25b1:decide (64≤(x3_2.size:Int))=true:=decide_eq_true c25;clear c25;replace H:=Option.bind_eq_some_iff.mp H;obtain⟨t498,A260,H⟩:=H;(try dsimp only at H);have A26:=Aside0.mk A260;clear A260;have c27b0:=eq_true (of_decide_eq_true zz3:64≤(x3_2.size:Int));have H':=Aside0.mk H;clear H;obtain⟨Ao28,co28,eo28⟩:=Kd.V_slice HO_4.out;subst eo28;go_wp2_with (first|((with_reducible refine gate_callee (f:=73) rfl ?_);refine goesQ_ 35 Tryz.func73 #[.slice Ao28 x4_2.length co28,.string (x3_2.extract 0 64)] ?_;(with_reducible refine(impl_Compress.calls k2 _ _ x4_2 (x3_2.extract 0 64) t498 _ ?side1 ?side2 A26.out).mono ?_);(case side1=>repeat(first|exact(Kd.V_reads' HO_4.out).2.2|(with_reducible refine Kd.C_alloc ?_ _)|(with_reducible refine Kd.C_drewN ?_ _)|(with_reducible refine Kd.C_drew ?_)));(case side2=>exact(Kd.V_reads' HO_4.out).2.1);rintro e w29 ⟨v499,rfl,ho0,hb⟩;refine⟨_,rfl,?_⟩;replace HO_4:=Aside0.mk (Kd.V_elder' (by(with_reducible repeat(first|apply Kd.V_alloc|apply Kd.V_drewN|apply Kd.V_drew));exact HO_4.out) (Kd.R_base ho0) hb);replace HO_496000:=Aside0.mk (Kd.V_elder' zz41 (Kd.R_base ho0) hb);have HO500:=Aside0.mk (Kd.R_lower (Kd.R_newM (M:=fun k_=>(w.heap.size≤k_)) ho0 (below_size zz22) (fun k_ h_=>h_)) (below_size zz22));replace BK495:=Aside0.mk (blk_below zz38 hb);replace HB:=Aside0.mk (below_step zz22 hb);(try clear hb);(try clear ho0)))
            go_roundg k2
            (case measure=>have:=HK1.out;have:=HK2.out;omega);case rel=>exact⟨(x3_2.extract 64 x3_2.size),(t498),zz1,H',⟨zz65⟩,⟨Kd.V_mono (Kd.R_V (by(with_reducible repeat(first|apply Kd.R_alloc|apply Kd.R_drewN|apply Kd.R_drew));exact Kd.R_types HO500.out BK495.out (by decide))) (fun k_ hk=>by first|exact⟨(.inr (hk.1.1)),hk.2⟩|exact⟨(.inr (hk.1)),hk.2⟩|exact(.inr (hk)))⟩,⟨by(with_reducible repeat(first|apply Kd.V_alloc|apply Kd.V_drewN|apply Kd.V_drew));exact Kd.V_mono HO_496000.out (fun _ hk=>⟨hk.1.1,hk.1.2⟩)⟩,⟨zz38⟩,⟨zz22⟩⟩
           ·rw[if_neg c25]at H;exact absurd H (by simp)
          ·rw[if_neg c24]at H;exact absurd H (by simp)
      ·rw[if_neg c12]at H;exact absurd H (by simp)
     ·rw[if_neg c10]at H;have c10b0:(((x3_1.size:Int)%64)==56)=false:=beq_eq_false_iff_ne.mpr c10;have c10b1:(((x3_1.size:Int)%64)!=56)=true:=bne_iff_ne.mpr c10;(first|rw[c10b0]|(simp only[i64_w,i32_w];rw[c10b0])|rw[c10b1]|(rw[c10b2];simp only[Bool.not_true,Bool.not_false])|skip)
      by_cases c30:x3_1.size+1≤9223372036854775807
      ·rw[if_pos c30]at H;have c30b0:=eq_true c30;have c30b1:decide (x3_1.size+1≤9223372036854775807)=true:=decide_eq_true c30;(try have c30b2:(9223372036854775807<x3_1.size+1)=False:=eq_false (Nat.not_lt.2 c30));have H':=Aside0.mk H;clear H;go_wp2
       go_roundg k1
       (case measure=>have:=HK1.out;omega);case rel=>exact⟨(x3_1++(⟨#[0]⟩:ByteArray)),zz1,H',⟨zz60⟩,⟨zz41⟩,⟨zz38⟩,⟨zz22⟩⟩
      ·rw[if_neg c30]at H;exact absurd H (by simp)
  ·rw[if_neg c8]at H;exact absurd H (by simp)
 ·replace c7:=Bool.eq_false_iff.mpr c7;subst c7;rw[if_neg Bool.false_ne_true]at H;obtain rfl:=Option.some.inj H;go_wp2
  go_ret;exact⟨zz2,zz22⟩
end Go.Proofs.YtgkipkifkobjnaaGreatDoor.GFnExactRecOk
