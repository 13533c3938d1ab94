-- Printed by gen.py and its programs for this claim.
import Derived.Test.YteojcbbifacpnaaGreatDoorGFnExactClosestx0
import Derived.Test.YteojcbbifacpnaaGreatDoorZFnExactClosest
namespace Go.Proofs.YteojcbbifacpnaaGreatDoor.GFnExactClosest
open Go.RowKit Go.Proofs.YteojcbbifacpnaaGreatDoorW.PrintWords Go.Proofs.YteojcbbifacpnaaGreatDoorW.PrintLast Go.Proofs.YteojcbbifacpnaaGreatDoorW.PrintMore Go.Proofs.YteojcbbifacpnaaGreatDoorW.Zs
set_option maxHeartbeats 40000000
set_option maxRecDepth 100000
attribute [local go_sem] max2_int min2_int max_two min_two max_three min_three max_four min_four
set_option linter.unusedVariables false
set_option linter.unusedSimpArgs false
def laws_eqLine.f (a0_0:ByteArray) (a0_1 a0_2:Int) (a0_3:ByteArray) (a0_4:Int) (a0_5:ByteArray) (a0_6:Bool) (a0_7 a0_8 a0_9:Int) (a1_0:ByteArray) (a1_1 a1_2:Int) (a1_3:ByteArray) (a1_4:Int) (a1_5:ByteArray) (a1_6:Bool) (a1_7 a1_8 a1_9:Int):Option (Bool):=if a0_0.toList=a1_0.toList then(if a0_1=a1_1 then(if a0_2=a1_2 then(if a0_3.toList=a1_3.toList then(if a0_4=a1_4 then(if a0_5.toList=a1_5.toList then(if(a0_6 !=a1_6)=true then(some false)else(if a0_7=a1_7 then(if a0_8=a1_8 then(if a0_9=a1_9 then(some true)else(some false))else(some false))else(some false)))else(some false))else(some false))else(some false))else(some false))else(some false))else(some false)
theorem laws_eqLine.calls (a0_0:ByteArray) (a0_1 a0_2:Int) (a0_3:ByteArray) (a0_4:Int) (a0_5:ByteArray) (a0_6:Bool) (a0_7 a0_8 a0_9:Int) (a1_0:ByteArray) (a1_1 a1_2:Int) (a1_3:ByteArray) (a1_4:Int) (a1_5:ByteArray) (a1_6:Bool) (a1_7 a1_8 a1_9:Int) (r:Bool) (w:World) (h:laws_eqLine.f a0_0 a0_1 a0_2 a0_3 a0_4 a0_5 a0_6 a0_7 a0_8 a0_9 a1_0 a1_1 a1_2 a1_3 a1_4 a1_5 a1_6 a1_7 a1_8 a1_9=some r):
  Calls Tryz.prog 27 #[.agg #[.string a0_0,.int .i64 a0_1,.int .i64 a0_2,.string a0_3,.int .i64 a0_4,.string a0_5,.bool a0_6,.int .i64 a0_7,.int .i64 a0_8,.int .i64 a0_9],.agg #[.string a1_0,.int .i64 a1_1,.int .i64 a1_2,.string a1_3,.int .i64 a1_4,.string a1_5,.bool a1_6,.int .i64 a1_7,.int .i64 a1_8,.int .i64 a1_9]] w fun e w'=>e= .returned (.bool r)∧Below w.heap.size w w':=by
 have hu26:=Tryz.underlying26;have HB:=Aside0.mk (Below.refl w.heap.size w);have H:(if a0_0.toList=a1_0.toList then(if a0_1=a1_1 then(if a0_2=a1_2 then(if a0_3.toList=a1_3.toList then(if a0_4=a1_4 then(if a0_5.toList=a1_5.toList then(if(a0_6 !=a1_6)=true then(some false)else(if a0_7=a1_7 then(if a0_8=a1_8 then(if a0_9=a1_9 then(some true)else(some false))else(some false))else(some false)))else(some false))else(some false))else(some false))else(some false))else(some false))else(some false))=some r:=h;clear h;have HC3:=Aside0.mk H;clear H;go_enter Tryz.func27,Tryz.ntmps27
 go_upto_if 9 with(first|((with_reducible refine gate_dst (N:=2) rfl ?_);refine boxP_ (N:=2) (cs:= #[.string a0_0,.int .i64 a0_1,.int .i64 a0_2,.string a0_3,.int .i64 a0_4,.string a0_5,.bool a0_6,.int .i64 a0_7,.int .i64 a0_8,.int .i64 a0_9]) (t:=26) ?_;intro gb122 hg w4 hbox hb;have BK122:=Aside0.mk (hbox);have GE122:=geb_ (w:=w) hg zz0;replace HB:=Aside0.mk (below_step zz0 hb);clear hb hbox hg)|((with_reducible refine gate_dst (N:=3) rfl ?_);refine boxP_ (N:=3) (cs:= #[.string a1_0,.int .i64 a1_1,.int .i64 a1_2,.string a1_3,.int .i64 a1_4,.string a1_5,.bool a1_6,.int .i64 a1_7,.int .i64 a1_8,.int .i64 a1_9]) (t:=26) ?_;intro gb123 hg w5 hbox hb;have BK123:=Aside0.mk (hbox);have GE123:=geb_ (w:=w) hg zz92;replace HB:=Aside0.mk (below_step zz92 hb);have NB122_123:=nbL_ (g:=gb122) hg zz75;have NB123_122:=nbG_ (g:=gb122) hg zz75;replace BK122:=Aside0.mk (blk_below zz75 hb);clear hb hbox hg;have hnb6:=NB122_123.out;have hnc6:=NB123_122.out;obtain⟨_,_,_,_,_,_,_,_,_,_,_,_,_,_,_,_,_,_,_,_⟩:=cells10_ BK122.out;obtain⟨_,_,_,_,_,_,_,_,_,_,_,_,_,_,_,_,_,_,_,_⟩:=cells10_ BK123.out))
 (try simp only[Act.put,List.setIfInBounds_toArray,List.set_cons_zero,List.set_cons_succ]);have H:=HC3.out;clear HC3
 by_cases c9:a0_0.toList=a1_0.toList
 ·rw[if_pos c9]at H;have c9b0:(a0_0.toList==a1_0.toList)=true:=beq_iff_eq.mpr c9;have c9b1:(a0_0.toList !=a1_0.toList)=false:=bne_eq_false_iff_eq.mpr c9;clear c9;(first|rw[c9b0]|(simp only[i64_w,i32_w];rw[c9b0])|rw[c9b1]|(rw[c9b2];simp only[Bool.not_true,Bool.not_false])|skip)
  by_cases c10:a0_1=a1_1
  ·rw[if_pos c10]at H;have c10b0:(a0_1==a1_1)=true:=beq_iff_eq.mpr c10;have c10b1:(a0_1 !=a1_1)=false:=bne_eq_false_iff_eq.mpr c10;clear c10
   by_cases c11:a0_2=a1_2
   ·rw[if_pos c11]at H;have c11b0:(a0_2==a1_2)=true:=beq_iff_eq.mpr c11;have c11b1:(a0_2 !=a1_2)=false:=bne_eq_false_iff_eq.mpr c11;clear c11
    by_cases c12:a0_3.toList=a1_3.toList
    ·rw[if_pos c12]at H;have c12b0:(a0_3.toList==a1_3.toList)=true:=beq_iff_eq.mpr c12;have c12b1:(a0_3.toList !=a1_3.toList)=false:=bne_eq_false_iff_eq.mpr c12;clear c12
     by_cases c13:a0_4=a1_4
     ·rw[if_pos c13]at H;have c13b0:(a0_4==a1_4)=true:=beq_iff_eq.mpr c13;have c13b1:(a0_4 !=a1_4)=false:=bne_eq_false_iff_eq.mpr c13;clear c13
      by_cases c14:a0_5.toList=a1_5.toList
      ·rw[if_pos c14]at H;have c14b0:(a0_5.toList==a1_5.toList)=true:=beq_iff_eq.mpr c14;have c14b1:(a0_5.toList !=a1_5.toList)=false:=bne_eq_false_iff_eq.mpr c14;clear c14
       by_cases c15:(a0_6 !=a1_6)=true
       ·rw[if_pos c15]at H;have c15b0:(a0_6 !=a1_6)=true:=c15;(try(have c15b1:decide (a0_6=a1_6)=false:=by simpa using c15));(try(have c15b2:(a0_6==a1_6)=false:=by simpa using c15));(try(have c15b3: ¬(a0_6=a1_6):=by simpa using c15));clear c15;obtain rfl:=Option.some.inj H;have hnb16:=NB122_123.out;have hnc16:=NB123_122.out;obtain⟨_,_,_,_,_,_,_,_,_,_,_,_,_,_,_,_,_,_,_,_⟩:=cells10_ BK122.out;obtain⟨_,_,_,_,_,_,_,_,_,_,_,_,_,_,_,_,_,_,_,_⟩:=cells10_ BK123.out;go_wp2
        go_ret;exact⟨zz1,zz19⟩
       ·rw[if_neg c15]at H;have c15b0:(a0_6 !=a1_6)=false:=by simpa using c15
        (try(have c15b1:decide (a0_6=a1_6)=true:=by simpa using c15));(try(have c15b2:(a0_6==a1_6)=true:=by simpa using c15));clear c15
        by_cases c19:a0_7=a1_7
        ·rw[if_pos c19]at H;have c19b0:(a0_7==a1_7)=true:=beq_iff_eq.mpr c19;have c19b1:(a0_7 !=a1_7)=false:=bne_eq_false_iff_eq.mpr c19;clear c19
         by_cases c20:a0_8=a1_8
         ·rw[if_pos c20]at H;have c20b0:(a0_8==a1_8)=true:=beq_iff_eq.mpr c20;have c20b1:(a0_8 !=a1_8)=false:=bne_eq_false_iff_eq.mpr c20;clear c20
          by_cases c21:a0_9=a1_9
          ·rw[if_pos c21]at H;have c21b0:(a0_9==a1_9)=true:=beq_iff_eq.mpr c21;have c21b1:(a0_9 !=a1_9)=false:=bne_eq_false_iff_eq.mpr c21;clear c21;obtain rfl:=Option.some.inj H;have hnb22:=NB122_123.out;have hnc22:=NB123_122.out;obtain⟨_,_,_,_,_,_,_,_,_,_,_,_,_,_,_,_,_,_,_,_⟩:=cells10_ BK122.out;obtain⟨_,_,_,_,_,_,_,_,_,_,_,_,_,_,_,_,_,_,_,_⟩:=cells10_ BK123.out;go_wp2
           go_ret;exact⟨zz1,zz19⟩
          ·rw[if_neg c21]at H;have c21b0:(a0_9==a1_9)=false:=beq_eq_false_iff_ne.mpr c21;have c21b1:(a0_9 !=a1_9)=true:=bne_iff_ne.mpr c21;obtain rfl:=Option.some.inj H;have hnb25:=NB122_123.out;have hnc25:=NB123_122.out;obtain⟨_,_,_,_,_,_,_,_,_,_,_,_,_,_,_,_,_,_,_,_⟩:=cells10_ BK122.out;obtain⟨_,_,_,_,_,_,_,_,_,_,_,_,_,_,_,_,_,_,_,_⟩:=cells10_ BK123.out;go_wp2
           go_ret;exact⟨zz1,zz19⟩
         ·rw[if_neg c20]at H;have c20b0:(a0_8==a1_8)=false:=beq_eq_false_iff_ne.mpr c20;have c20b1:(a0_8 !=a1_8)=true:=bne_iff_ne.mpr c20;obtain rfl:=Option.some.inj H;have hnb28:=NB122_123.out;have hnc28:=NB123_122.out;obtain⟨_,_,_,_,_,_,_,_,_,_,_,_,_,_,_,_,_,_,_,_⟩:=cells10_ BK122.out;obtain⟨_,_,_,_,_,_,_,_,_,_,_,_,_,_,_,_,_,_,_,_⟩:=cells10_ BK123.out;go_wp2
          go_ret;exact⟨zz1,zz19⟩
        ·rw[if_neg c19]at H;have c19b0:(a0_7==a1_7)=false:=beq_eq_false_iff_ne.mpr c19;have c19b1:(a0_7 !=a1_7)=true:=bne_iff_ne.mpr c19;obtain rfl:=Option.some.inj H;have hnb31:=NB122_123.out;have hnc31:=NB123_122.out;obtain⟨_,_,_,_,_,_,_,_,_,_,_,_,_,_,_,_,_,_,_,_⟩:=cells10_ BK122.out;obtain⟨_,_,_,_,_,_,_,_,_,_,_,_,_,_,_,_,_,_,_,_⟩:=cells10_ BK123.out;go_wp2
         go_ret;exact⟨zz1,zz19⟩
      ·rw[if_neg c14]at H;have c14b0:(a0_5.toList==a1_5.toList)=false:=beq_eq_false_iff_ne.mpr c14;have c14b1:(a0_5.toList !=a1_5.toList)=true:=bne_iff_ne.mpr c14;obtain rfl:=Option.some.inj H;have hnb34:=NB122_123.out;have hnc34:=NB123_122.out;obtain⟨_,_,_,_,_,_,_,_,_,_,_,_,_,_,_,_,_,_,_,_⟩:=cells10_ BK122.out;obtain⟨_,_,_,_,_,_,_,_,_,_,_,_,_,_,_,_,_,_,_,_⟩:=cells10_ BK123.out;go_wp2
       go_ret;exact⟨zz1,zz19⟩
     ·rw[if_neg c13]at H;have c13b0:(a0_4==a1_4)=false:=beq_eq_false_iff_ne.mpr c13;have c13b1:(a0_4 !=a1_4)=true:=bne_iff_ne.mpr c13;obtain rfl:=Option.some.inj H;have hnb37:=NB122_123.out;have hnc37:=NB123_122.out;obtain⟨_,_,_,_,_,_,_,_,_,_,_,_,_,_,_,_,_,_,_,_⟩:=cells10_ BK122.out;obtain⟨_,_,_,_,_,_,_,_,_,_,_,_,_,_,_,_,_,_,_,_⟩:=cells10_ BK123.out;go_wp2
      go_ret;exact⟨zz1,zz19⟩
    ·rw[if_neg c12]at H;have c12b0:(a0_3.toList==a1_3.toList)=false:=beq_eq_false_iff_ne.mpr c12;have c12b1:(a0_3.toList !=a1_3.toList)=true:=bne_iff_ne.mpr c12;obtain rfl:=Option.some.inj H;have hnb40:=NB122_123.out;have hnc40:=NB123_122.out;obtain⟨_,_,_,_,_,_,_,_,_,_,_,_,_,_,_,_,_,_,_,_⟩:=cells10_ BK122.out;obtain⟨_,_,_,_,_,_,_,_,_,_,_,_,_,_,_,_,_,_,_,_⟩:=cells10_ BK123.out;go_wp2
     go_ret;exact⟨zz1,zz19⟩
   ·rw[if_neg c11]at H;have c11b0:(a0_2==a1_2)=false:=beq_eq_false_iff_ne.mpr c11;have c11b1:(a0_2 !=a1_2)=true:=bne_iff_ne.mpr c11;obtain rfl:=Option.some.inj H;have hnb43:=NB122_123.out;have hnc43:=NB123_122.out;obtain⟨_,_,_,_,_,_,_,_,_,_,_,_,_,_,_,_,_,_,_,_⟩:=cells10_ BK122.out;obtain⟨_,_,_,_,_,_,_,_,_,_,_,_,_,_,_,_,_,_,_,_⟩:=cells10_ BK123.out;go_wp2
    go_ret;exact⟨zz1,zz19⟩
  ·rw[if_neg c10]at H;have c10b0:(a0_1==a1_1)=false:=beq_eq_false_iff_ne.mpr c10;have c10b1:(a0_1 !=a1_1)=true:=bne_iff_ne.mpr c10;obtain rfl:=Option.some.inj H;have hnb46:=NB122_123.out;have hnc46:=NB123_122.out;obtain⟨_,_,_,_,_,_,_,_,_,_,_,_,_,_,_,_,_,_,_,_⟩:=cells10_ BK122.out;obtain⟨_,_,_,_,_,_,_,_,_,_,_,_,_,_,_,_,_,_,_,_⟩:=cells10_ BK123.out;go_wp2
   go_ret;exact⟨zz1,zz19⟩
 ·rw[if_neg c9]at H;have c9b0:(a0_0.toList==a1_0.toList)=false:=beq_eq_false_iff_ne.mpr c9;have c9b1:(a0_0.toList !=a1_0.toList)=true:=bne_iff_ne.mpr c9;(first|rw[c9b0]|(simp only[i64_w,i32_w];rw[c9b0])|rw[c9b1]|(rw[c9b2];simp only[Bool.not_true,Bool.not_false])|skip);obtain rfl:=Option.some.inj H;go_wp2
  go_ret;exact⟨zz1,zz19⟩
def laws_eqLineS.l0:Nat→List (S26)→List (S26)→Int→Option (Bool)
 |0,_,_,_=>none
 |k+1,x0,x1,x5=>if x5<(x0.length:Int)then(if 0≤x5 then(if x5<(x1.length:Int)then((laws_eqLine.f ((rd_T26 x0 x5).f0) ((rd_T26 x0 x5).f1) ((rd_T26 x0 x5).f2) ((rd_T26 x0 x5).f3) ((rd_T26 x0 x5).f4) ((rd_T26 x0 x5).f5) ((rd_T26 x0 x5).f6) ((rd_T26 x0 x5).f7) ((rd_T26 x0 x5).f8) ((rd_T26 x0 x5).f9) ((rd_T26 x1 x5).f0) ((rd_T26 x1 x5).f1) ((rd_T26 x1 x5).f2) ((rd_T26 x1 x5).f3) ((rd_T26 x1 x5).f4) ((rd_T26 x1 x5).f5) ((rd_T26 x1 x5).f6) ((rd_T26 x1 x5).f7) ((rd_T26 x1 x5).f8) ((rd_T26 x1 x5).f9)).bind fun t126=>(if t126=true then(laws_eqLineS.l0 k x0 x1 (wrap64 (x5+1)))else(some false)))else(none))else(none))else(some true)
def laws_eqLineS.f (k:Nat) (l0:List (S26)) (l1:List (S26)):Option (Bool):=if(l0.length:Int)=(l1.length:Int)then(laws_eqLineS.l0 k l0 l1 0)else(some false)
def laws_eqLineS.T6:Bool×List (List Nat×List Nat):=(true,[([],[]),([],[]),([0,1],[0,1]),([2],[2]),([],[]),([],[]),([4,5],[4,5]),([6],[6]),([3,7],[3,7]),([8],[8])])
def laws_eqLineS.B6:List Nat:= [0,0,3,7,0,0,48,112,255,511]
theorem laws_eqLineS.tab6:rtab .any (opsOf Tryz.f20 6)=laws_eqLineS.T6:=by kernel_rfl
theorem laws_eqLineS.bits6:waitsOk laws_eqLineS.T6.2 laws_eqLineS.B6=true:=by kernel_rfl
theorem laws_eqLineS.calls (k:Nat) (A0:Option Addr) (c0:Nat) (l0:List (S26)) (A1:Option Addr) (c1:Nat) (l1:List (S26)) (r:Bool) (w:World) (hr0:Kd.C k26 w A0 l0.length l0) (hc0:l0.length≤c0) (hr1:Kd.C k26 w A1 l1.length l1) (hc1:l1.length≤c1) (h:laws_eqLineS.f k l0 l1=some r):
  Calls Tryz.prog 20 #[.slice A0 l0.length c0,.slice A1 l1.length c1] w fun e w'=>e= .returned (.bool r)∧Below w.heap.size w w':=by
 have hu26:=Tryz.underlying26;have HR0:=Aside0.mk hr0;have HC0:=Aside0.mk hc0;clear hr0 hc0;have HR1:=Aside0.mk hr1;have HC1:=Aside0.mk hc1;clear hr1 hc1;have HB:=Aside0.mk (Below.refl w.heap.size w);have H:(if(l0.length:Int)=(l1.length:Int)then(laws_eqLineS.l0 k l0 l1 0)else(some false))=some r:=h;clear h
 by_cases c3:(l0.length:Int)=(l1.length:Int)
 ·rw[if_pos c3]at H;have c3b0:((l0.length:Int)==(l1.length:Int))=true:=beq_iff_eq.mpr c3;have c3b1:((l0.length:Int)!=(l1.length:Int))=false:=bne_eq_false_iff_eq.mpr c3;have c3b2:(l0.length==l1.length)=true:=by first|simpa using c3|(simp at c3 ⊢;omega)
  clear c3;have H':=Aside0.mk H;clear H;go_enter Tryz.func20,Tryz.ntmps20
  go_wp2
  go_loopg [5] k (fun kq v5 w'=> ∃(x5_1:Int),v5= .int .i64 x5_1∧Aside0 (laws_eqLineS.l0 kq l0 l1 x5_1=some r)∧Aside0 (kq≤k)∧Aside0 (Below w.heap.size w w'))
  case atStart=>exact⟨(0),zz2,H',⟨Nat.le_refl _⟩,⟨zz0⟩⟩
  case round=>
   clear H';(try clear c1);(try clear c2);(try clear p2);(try clear c3);(try clear c3b0);(try clear c3b1);(try clear c3b2);obtain⟨x5_1,rfl,HA,HK1,HB⟩:=hrel
   cases gk with
   |zero=>exact absurd HA.out (by simp[laws_eqLineS.l0])
   |succ k1=>
    have H:=HA.out;clear HA;simp only[laws_eqLineS.l0]at H
    by_cases c4:x5_1<(l0.length:Int)
    ·rw[if_pos c4]at H;have c4b0:decide (x5_1<(l0.length:Int))=true:=decide_eq_true c4;clear c4
     by_cases c5:0≤x5_1
     ·rw[if_pos c5]at H;have c5b0:decide (0≤x5_1)=true:=decide_eq_true c5;clear c5
      by_cases c6:x5_1<(l1.length:Int)
      ·rw[if_pos c6]at H;have c6b0:decide (x5_1<(l1.length:Int))=true:=decide_eq_true c6;clear c6;replace H:=Option.bind_eq_some_iff.mp H;obtain⟨t126,A70,H⟩:=H;(try dsimp only at H);have A7:=Aside0.mk A70;clear A70;have HC8:=Aside0.mk H;clear H;(try go_wp2);replace HB:=Aside0.mk (below_drew1 HB.out);have p124:0≤(x5_1:Int):=of_decide_eq_true zz3;have q124:x5_1<(l0.length:Int):=of_decide_eq_true zz3;obtain⟨ad124,e124,W124⟩:=at_T26 HR0.out x5_1 p124 q124;cases e124;obtain⟨hx124_0,hx124_1,hx124_2,hx124_3,hx124_4,hx124_5,hx124_6,hx124_7,hx124_8,hx124_9⟩:=El26.up HB.out W124;replace p124:=eq_true p124;replace q124:=eq_true q124;have p125:0≤(x5_1:Int):=of_decide_eq_true zz3;have q125:x5_1<(l1.length:Int):=of_decide_eq_true zz3;obtain⟨ad125,e125,W125⟩:=at_T26 HR1.out x5_1 p125 q125;cases e125;obtain⟨hx125_0,hx125_1,hx125_2,hx125_3,hx125_4,hx125_5,hx125_6,hx125_7,hx125_8,hx125_9⟩:=El26.up HB.out W125;replace p125:=eq_true p125;replace q125:=eq_true q125;refine st_ (n:=10) (S:=fun w'=>El26 w' (ad124.add ((x5_1).toNat*10)) (rd_T26 l0 x5_1)∧El26 w' (ad125.add ((x5_1).toNat*10)) (rd_T26 l1 x5_1)) (ds:= []) ⟨El26.up HB.out W124,El26.up HB.out W125⟩ (fun hHeld=>?_);refine with_tabW laws_eqLineS.tab6 laws_eqLineS.bits6 (fun HT_ HW_=>?_);generalize wr.drew=w9 at HB hx124_0 hx124_1 hx124_2 hx124_3 hx124_4 hx124_5 hx124_6 hx124_7 hx124_8 hx124_9 hx125_0 hx125_1 hx125_2 hx125_3 hx125_4 hx125_5 hx125_6 hx125_7 hx125_8 hx125_9 hHeld ⊢;refine pz 0 17 ?_;refine pz 1 18 ?_;refine pz 2 19 ?_;refine pz 4 21 ?_;refine pz 5 22 ?_;refine pz 6 23 ?_;refine tk0_ 3 20 hHeld ?_;refine tk0_ 7 24 hHeld ?_;refine ozZ 8 25 Tryz.func27 #[.agg #[.string ((rd_T26 l0 x5_1).f0),.int .i64 ((rd_T26 l0 x5_1).f1),.int .i64 ((rd_T26 l0 x5_1).f2),.string ((rd_T26 l0 x5_1).f3),.int .i64 ((rd_T26 l0 x5_1).f4),.string ((rd_T26 l0 x5_1).f5),.bool ((rd_T26 l0 x5_1).f6),.int .i64 ((rd_T26 l0 x5_1).f7),.int .i64 ((rd_T26 l0 x5_1).f8),.int .i64 ((rd_T26 l0 x5_1).f9)],.agg #[.string ((rd_T26 l1 x5_1).f0),.int .i64 ((rd_T26 l1 x5_1).f1),.int .i64 ((rd_T26 l1 x5_1).f2),.string ((rd_T26 l1 x5_1).f3),.int .i64 ((rd_T26 l1 x5_1).f4),.string ((rd_T26 l1 x5_1).f5),.bool ((rd_T26 l1 x5_1).f6),.int .i64 ((rd_T26 l1 x5_1).f7),.int .i64 ((rd_T26 l1 x5_1).f8),.int .i64 ((rd_T26 l1 x5_1).f9)]] (laws_eqLine.calls ((rd_T26 l0 x5_1).f0) ((rd_T26 l0 x5_1).f1) ((rd_T26 l0 x5_1).f2) ((rd_T26 l0 x5_1).f3) ((rd_T26 l0 x5_1).f4) ((rd_T26 l0 x5_1).f5) ((rd_T26 l0 x5_1).f6) ((rd_T26 l0 x5_1).f7) ((rd_T26 l0 x5_1).f8) ((rd_T26 l0 x5_1).f9) ((rd_T26 l1 x5_1).f0) ((rd_T26 l1 x5_1).f1) ((rd_T26 l1 x5_1).f2) ((rd_T26 l1 x5_1).f3) ((rd_T26 l1 x5_1).f4) ((rd_T26 l1 x5_1).f5) ((rd_T26 l1 x5_1).f6) ((rd_T26 l1 x5_1).f7) ((rd_T26 l1 x5_1).f8) ((rd_T26 l1 x5_1).f9) t126 _ A7.out) (fun K hK=>?_);rintro w10 hb;replace HB:=Aside0.mk (below_step zz0 hb);(try clear hb);(try clear hb2);(try clear hk);(try clear hi);refine hK.out _ _ ⟨El26.up HB.out W124,El26.up HB.out W125⟩ (fun hHeld=>?_);clear hK K;refine nz ?_;refine pz 9 26 ?_;refine done_ (done_of HT_.out (by kernel_rfl)) ?_;go_upto_if 26 with(fail)
       have H:=HC8.out;clear HC8
       by_cases c11:t126=true
       ·subst c11;rw[if_pos rfl]at H;have H':=Aside0.mk H;clear H;go_wp2
        go_roundg k1
        (case measure=>have:=HK1.out;omega);case rel=>exact⟨(wrap64 (x5_1+1)),zz2,H',⟨zz50⟩,⟨zz0⟩⟩
       ·replace c11:=Bool.eq_false_iff.mpr c11;subst c11;rw[if_neg Bool.false_ne_true]at H;obtain rfl:=Option.some.inj H;go_wp2
        go_ret;exact⟨zz1,zz0⟩
      ·rw[if_neg c6]at H;exact absurd H (by simp)
     ·rw[if_neg c5]at H;exact absurd H (by simp)
    ·rw[if_neg c4]at H;have c4b0:decide (x5_1<(l0.length:Int))=false:=decide_eq_false c4;clear c4;obtain rfl:=Option.some.inj H;go_wp2
     go_ret;exact⟨zz1,zz0⟩
 ·rw[if_neg c3]at H;have c3b0:((l0.length:Int)==(l1.length:Int))=false:=beq_eq_false_iff_ne.mpr c3;have c3b1:((l0.length:Int)!=(l1.length:Int))=true:=bne_iff_ne.mpr c3;have c3b2:(l0.length==l1.length)=false:=by first|simpa using c3|(simp at c3 ⊢;omega)
  obtain rfl:=Option.some.inj H;go_enter Tryz.func20,Tryz.ntmps20
  go_wp2
  go_ret;exact⟨zz1,zz0⟩
end Go.Proofs.YteojcbbifacpnaaGreatDoor.GFnExactClosest
