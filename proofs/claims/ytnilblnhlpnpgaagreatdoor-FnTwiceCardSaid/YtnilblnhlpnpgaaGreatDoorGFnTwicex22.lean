-- Printed by gen.py and its programs for this claim.
import Derived.Test.YtnilblnhlpnpgaaGreatDoorGFnTwicex0
import Derived.Test.YtnilblnhlpnpgaaGreatDoorGFnTwicex15
import Derived.Test.YtnilblnhlpnpgaaGreatDoorGFnTwicex21
import Derived.Test.YtnilblnhlpnpgaaGreatDoorZFnTwice
namespace Go.Proofs.YtnilblnhlpnpgaaGreatDoor.GFnTwice
open Go.RowKit Go.Proofs.YtnilblnhlpnpgaaGreatDoorW.PrintWords Go.Proofs.YtnilblnhlpnpgaaGreatDoorW.PrintLast Go.Proofs.YtnilblnhlpnpgaaGreatDoorW.PrintMore Go.Proofs.YtnilblnhlpnpgaaGreatDoorW.Zs
set_option maxHeartbeats 40000000
set_option maxRecDepth 100000
attribute [local go_sem] max2_int min2_int max_two min_two max_three min_three max_four min_four
set_option linter.unusedVariables false
set_option linter.unusedSimpArgs false
mutual
def spec_l6head.j0:Nat→ByteArray→ByteArray→ByteArray→Int→ByteArray→Bool→List (S82)→ByteArray→Option (ByteArray)
 |0,_,_,_,_,_,_,_,_=>none
 |k+1,x3,x580000,x580001,x580002,x580003,x580004,x580005,x580006=>spec_l6head.l0 k x3 0 x580000 x580001 x580002 x580003 x580004 x580005 x580006
def spec_l6head.l0:Nat→ByteArray→Int→ByteArray→ByteArray→Int→ByteArray→Bool→List (S82)→ByteArray→Option (ByteArray)
 |0,_,_,_,_,_,_,_,_,_=>none
 |k+1,x3,x4,x580000,x580001,x580002,x580003,x580004,x580005,x580006=>if x4<(x580005.length:Int)then(if 0≤x4 then((spec_FieldText.f k ((rd_T82 x580005 x4).f0) ((rd_T82 x580005 x4).f1)).bind fun t582=>(if x3.size+t582.size≤9223372036854775807 then(if(x3++t582).size+2≤9223372036854775807 then(spec_l6head.l0 k ((x3++t582)++(⟨#[13,10]⟩:ByteArray)) (wrap64 (x4+1)) x580000 x580001 x580002 x580003 x580004 x580005 x580006)else(none))else(none)))else(none))else(if x580000.toList=([]:List UInt8)then(if x580004=true then(if x3.size+2≤9223372036854775807 then(some (x3++(⟨#[13,10]⟩:ByteArray)))else(none))else(if x3.size+16≤9223372036854775807 then((spec_DecText.f k (x580006.size:Int)).bind fun t583=>(if(x3++(⟨#[67,111,110,116,101,110,116,45,76,101,110,103,116,104,58,32]⟩:ByteArray)).size+t583.size≤9223372036854775807 then(if((x3++(⟨#[67,111,110,116,101,110,116,45,76,101,110,103,116,104,58,32]⟩:ByteArray))++t583).size+2≤9223372036854775807 then(if(((x3++(⟨#[67,111,110,116,101,110,116,45,76,101,110,103,116,104,58,32]⟩:ByteArray))++t583)++(⟨#[13,10]⟩:ByteArray)).size+2≤9223372036854775807 then(some ((((x3++(⟨#[67,111,110,116,101,110,116,45,76,101,110,103,116,104,58,32]⟩:ByteArray))++t583)++(⟨#[13,10]⟩:ByteArray))++(⟨#[13,10]⟩:ByteArray)))else(none))else(none))else(none)))else(none)))else(if x580006.toList=([]:List UInt8)then(if x3.size+2≤9223372036854775807 then(some (x3++(⟨#[13,10]⟩:ByteArray)))else(none))else(if x3.size+16≤9223372036854775807 then((spec_DecText.f k (x580006.size:Int)).bind fun t584=>(if(x3++(⟨#[67,111,110,116,101,110,116,45,76,101,110,103,116,104,58,32]⟩:ByteArray)).size+t584.size≤9223372036854775807 then(if((x3++(⟨#[67,111,110,116,101,110,116,45,76,101,110,103,116,104,58,32]⟩:ByteArray))++t584).size+2≤9223372036854775807 then(if(((x3++(⟨#[67,111,110,116,101,110,116,45,76,101,110,103,116,104,58,32]⟩:ByteArray))++t584)++(⟨#[13,10]⟩:ByteArray)).size+2≤9223372036854775807 then(some ((((x3++(⟨#[67,111,110,116,101,110,116,45,76,101,110,103,116,104,58,32]⟩:ByteArray))++t584)++(⟨#[13,10]⟩:ByteArray))++(⟨#[13,10]⟩:ByteArray)))else(none))else(none))else(none)))else(none))))
end
def spec_l6head.f (k:Nat) (a0_0 a0_1:ByteArray) (a0_2:Int) (a0_3:ByteArray) (a0_4:Bool) (l0_5:List (S82)) (a0_6:ByteArray):Option (ByteArray):=if a0_0.size+1≤9223372036854775807 then(if(a0_0++(⟨#[32]⟩:ByteArray)).size+a0_1.size≤9223372036854775807 then(if((a0_0++(⟨#[32]⟩:ByteArray))++a0_1).size+11≤9223372036854775807 then(if a0_0.toList=([]:List UInt8)then((spec_DecText.f k a0_2).bind fun t580=>(if 9+t580.size≤9223372036854775807 then(if((⟨#[72,84,84,80,47,49,46,49,32]⟩:ByteArray)++t580).size+1≤9223372036854775807 then(if(((⟨#[72,84,84,80,47,49,46,49,32]⟩:ByteArray)++t580)++(⟨#[32]⟩:ByteArray)).size+a0_3.size≤9223372036854775807 then(if((((⟨#[72,84,84,80,47,49,46,49,32]⟩:ByteArray)++t580)++(⟨#[32]⟩:ByteArray))++a0_3).size+2≤9223372036854775807 then(spec_l6head.j0 k (((((⟨#[72,84,84,80,47,49,46,49,32]⟩:ByteArray)++t580)++(⟨#[32]⟩:ByteArray))++a0_3)++(⟨#[13,10]⟩:ByteArray)) a0_0 a0_1 a0_2 a0_3 a0_4 l0_5 a0_6)else(none))else(none))else(none))else(none)))else(spec_l6head.j0 k (((a0_0++(⟨#[32]⟩:ByteArray))++a0_1)++(⟨#[32,72,84,84,80,47,49,46,49,13,10]⟩:ByteArray)) a0_0 a0_1 a0_2 a0_3 a0_4 l0_5 a0_6))else(none))else(none))else(none)
def spec_l6head.T3:Bool×List (List Nat×List Nat):=(true,[([],[]),([0],[0]),([1],[1]),([2],[2]),([3],[3]),([],[]),([5],[5]),([4,6],[4,6]),([7],[7]),([8,2,0,1,2,3,4,5,6,7,8],[8])])
def spec_l6head.B3:List Nat:= [0,1,3,7,15,0,32,127,255,511]
theorem spec_l6head.tab3:rtab .any (opsOf Tryz.f41 3)=spec_l6head.T3:=by kernel_rfl
theorem spec_l6head.bits3:waitsOk spec_l6head.T3.2 spec_l6head.B3=true:=by kernel_rfl
theorem spec_l6head.calls (k:Nat) (a0_0 a0_1:ByteArray) (a0_2:Int) (a0_3:ByteArray) (a0_4:Bool) (A0_5:Option Addr) (c0_5:Nat) (l0_5:List (S82)) (a0_6 r:ByteArray) (w:World) (hr0_5:Kd.C k82 w A0_5 l0_5.length l0_5) (hc0_5:l0_5.length≤c0_5) (h:spec_l6head.f k a0_0 a0_1 a0_2 a0_3 a0_4 l0_5 a0_6=some r):
  Calls Tryz.prog 41 #[.agg #[.string a0_0,.string a0_1,.int .i64 a0_2,.string a0_3,.bool a0_4,.slice A0_5 l0_5.length c0_5,.string a0_6]] w fun e w'=>e= .returned (.string r)∧Below w.heap.size w w':=by
 have hu34:=Tryz.underlying34;have hu82:=Tryz.underlying82;have HR0_5:=Aside0.mk hr0_5;have HC0_5:=Aside0.mk hc0_5;clear hr0_5 hc0_5;have HB:=Aside0.mk (Below.refl w.heap.size w);have H:(if a0_0.size+1≤9223372036854775807 then(if(a0_0++(⟨#[32]⟩:ByteArray)).size+a0_1.size≤9223372036854775807 then(if((a0_0++(⟨#[32]⟩:ByteArray))++a0_1).size+11≤9223372036854775807 then(if a0_0.toList=([]:List UInt8)then((spec_DecText.f k a0_2).bind fun t580=>(if 9+t580.size≤9223372036854775807 then(if((⟨#[72,84,84,80,47,49,46,49,32]⟩:ByteArray)++t580).size+1≤9223372036854775807 then(if(((⟨#[72,84,84,80,47,49,46,49,32]⟩:ByteArray)++t580)++(⟨#[32]⟩:ByteArray)).size+a0_3.size≤9223372036854775807 then(if((((⟨#[72,84,84,80,47,49,46,49,32]⟩:ByteArray)++t580)++(⟨#[32]⟩:ByteArray))++a0_3).size+2≤9223372036854775807 then(spec_l6head.j0 k (((((⟨#[72,84,84,80,47,49,46,49,32]⟩:ByteArray)++t580)++(⟨#[32]⟩:ByteArray))++a0_3)++(⟨#[13,10]⟩:ByteArray)) a0_0 a0_1 a0_2 a0_3 a0_4 l0_5 a0_6)else(none))else(none))else(none))else(none)))else(spec_l6head.j0 k (((a0_0++(⟨#[32]⟩:ByteArray))++a0_1)++(⟨#[32,72,84,84,80,47,49,46,49,13,10]⟩:ByteArray)) a0_0 a0_1 a0_2 a0_3 a0_4 l0_5 a0_6))else(none))else(none))else(none))=some r:=h;clear h
 by_cases c2:a0_0.size+1≤9223372036854775807
 ·as_aux_lemma=>
  rw[if_pos c2]at H;have c2b0:=eq_true c2;have c2b1:decide (a0_0.size+1≤9223372036854775807)=true:=decide_eq_true c2;try have c2b2:(9223372036854775807<a0_0.size+1)=False:=eq_false (Nat.not_lt.2 c2)
  by_cases c3:(a0_0++(⟨#[32]⟩:ByteArray)).size+a0_1.size≤9223372036854775807
  ·as_aux_lemma=>
   rw[if_pos c3]at H;have c3b0:=eq_true c3;have c3b1:decide ((a0_0++(⟨#[32]⟩:ByteArray)).size+a0_1.size≤9223372036854775807)=true:=decide_eq_true c3;(try have c3b2:(9223372036854775807<(a0_0++(⟨#[32]⟩:ByteArray)).size+a0_1.size)=False:=eq_false (Nat.not_lt.2 c3));try have c3z:=c3b2;simp only[ByteArray.size_append,show(⟨#[32]⟩:ByteArray).size=1 from rfl]at c3z;have c3b3:=c3z
   by_cases c4:((a0_0++(⟨#[32]⟩:ByteArray))++a0_1).size+11≤9223372036854775807
   ·as_aux_lemma=>
    rw[if_pos c4]at H;have c4b0:=eq_true c4;have c4b1:decide (((a0_0++(⟨#[32]⟩:ByteArray))++a0_1).size+11≤9223372036854775807)=true:=decide_eq_true c4;(try have c4b2:(9223372036854775807<((a0_0++(⟨#[32]⟩:ByteArray))++a0_1).size+11)=False:=eq_false (Nat.not_lt.2 c4));(try have c4z:=c4b2;simp only[ByteArray.size_append,show(⟨#[32]⟩:ByteArray).size=1 from rfl]at c4z;have c4b3:=c4z);have HC5:=Aside0.mk H;clear H;go_enter Tryz.func41,Tryz.ntmps41
    go_upto_if 14 with(first|((with_reducible refine gate_dst (N:=1) rfl ?_);refine boxP_ (N:=1) (cs:= #[.string a0_0,.string a0_1,.int .i64 a0_2,.string a0_3,.bool a0_4,.slice A0_5 l0_5.length c0_5,.string a0_6]) (t:=34) ?_;intro gb579 hg w6 hbox hb;have BK579:=Aside0.mk (hbox);have GE579:=geb_ (w:=w) hg zz0;replace HB:=Aside0.mk (below_step zz0 hb);clear hb hbox hg;obtain⟨_,_,_,_,_,_,_,_,_,_,_,_,_,_⟩:=cells7_ BK579.out))
    (try simp only[Act.put,List.setIfInBounds_toArray,List.set_cons_zero,List.set_cons_succ]);go_cut [3] (fun v3 wc=> ∃(kq:Nat) (x3_4:ByteArray),v3= .string x3_4∧Aside0 (spec_l6head.j0 kq x3_4 a0_0 a0_1 a0_2 a0_3 a0_4 l0_5 a0_6=some r)∧Aside0 (kq≤k)∧Aside0 (wc.heap[gb579]?=some (.cells #[.string a0_0,.string a0_1,.int .i64 a0_2,.string a0_3,.bool a0_4,(.slice A0_5 l0_5.length c0_5),.string a0_6] 34 (0,0)))∧Aside0 (Below w.heap.size w wc))
    case first=>as_aux_lemma=>
     have H:=HC5.out;clear HC5
     by_cases c8:a0_0.toList=([]:List UInt8)
     ·as_aux_lemma=>
      rw[if_pos c8]at H;have c8b0:(a0_0.toList==([]:List UInt8))=true:=beq_iff_eq.mpr c8;have c8e:a0_0.toList.isEmpty=true:=by have hz_:=beq_iff_eq.1 c8b0;rw[hz_];rfl
      (try rw[c8e]);have c8b1:(a0_0.toList !=([]:List UInt8))=false:=bne_eq_false_iff_eq.mpr c8;clear c8;(first|rw[c8b0]|(simp only[i64_w,i32_w];rw[c8b0])|rw[c8b1]|(rw[c8b2];simp only[Bool.not_true,Bool.not_false])|skip);replace H:=Option.bind_eq_some_iff.mp H;obtain⟨t580,A90,H⟩:=H;(try dsimp only at H);have A9:=Aside0.mk A90;clear A90
      by_cases c10:9+t580.size≤9223372036854775807
      ·as_aux_lemma=>
       rw[if_pos c10]at H;have c10b0:=eq_true c10;have c10b1:decide (9+t580.size≤9223372036854775807)=true:=decide_eq_true c10;try have c10b2:(9223372036854775807<9+t580.size)=False:=eq_false (Nat.not_lt.2 c10)
       by_cases c11:((⟨#[72,84,84,80,47,49,46,49,32]⟩:ByteArray)++t580).size+1≤9223372036854775807
       ·as_aux_lemma=>
        rw[if_pos c11]at H;have c11b0:=eq_true c11;have c11b1:decide (((⟨#[72,84,84,80,47,49,46,49,32]⟩:ByteArray)++t580).size+1≤9223372036854775807)=true:=decide_eq_true c11;(try have c11b2:(9223372036854775807<((⟨#[72,84,84,80,47,49,46,49,32]⟩:ByteArray)++t580).size+1)=False:=eq_false (Nat.not_lt.2 c11));try have c11z:=c11b2;simp only[ByteArray.size_append,show(⟨#[72,84,84,80,47,49,46,49,32]⟩:ByteArray).size=9 from rfl]at c11z;have c11b3:=c11z
        by_cases c12:(((⟨#[72,84,84,80,47,49,46,49,32]⟩:ByteArray)++t580)++(⟨#[32]⟩:ByteArray)).size+a0_3.size≤9223372036854775807
        ·rw[if_pos c12]at H;have c12b0:=eq_true c12;have c12b1:decide ((((⟨#[72,84,84,80,47,49,46,49,32]⟩:ByteArray)++t580)++(⟨#[32]⟩:ByteArray)).size+a0_3.size≤9223372036854775807)=true:=decide_eq_true c12;(try have c12b2:(9223372036854775807<(((⟨#[72,84,84,80,47,49,46,49,32]⟩:ByteArray)++t580)++(⟨#[32]⟩:ByteArray)).size+a0_3.size)=False:=eq_false (Nat.not_lt.2 c12));try have c12z:=c12b2;simp only[ByteArray.size_append,show(⟨#[32]⟩:ByteArray).size=1 from rfl,show(⟨#[72,84,84,80,47,49,46,49,32]⟩:ByteArray).size=9 from rfl]at c12z;have c12b3:=c12z
         by_cases c13:((((⟨#[72,84,84,80,47,49,46,49,32]⟩:ByteArray)++t580)++(⟨#[32]⟩:ByteArray))++a0_3).size+2≤9223372036854775807
         ·rw[if_pos c13]at H;have c13b0:=eq_true c13;have c13b1:decide (((((⟨#[72,84,84,80,47,49,46,49,32]⟩:ByteArray)++t580)++(⟨#[32]⟩:ByteArray))++a0_3).size+2≤9223372036854775807)=true:=decide_eq_true c13;(try have c13b2:(9223372036854775807<((((⟨#[72,84,84,80,47,49,46,49,32]⟩:ByteArray)++t580)++(⟨#[32]⟩:ByteArray))++a0_3).size+2)=False:=eq_false (Nat.not_lt.2 c13));(try have c13z:=c13b2;simp only[ByteArray.size_append,show(⟨#[32]⟩:ByteArray).size=1 from rfl,show(⟨#[72,84,84,80,47,49,46,49,32]⟩:ByteArray).size=9 from rfl]at c13z;have c13b3:=c13z);have H':=Aside0.mk H;clear H;(try go_wp2);replace BK579:=Aside0.mk (blk_drew BK579.out);replace HB:=Aside0.mk (below_drew1 HB.out);refine st_ (n:=10) (S:=fun w'=>w'.cell? ⟨gb579,0,none⟩=some (.string a0_0)∧w'.cell? ⟨gb579,1,none⟩=some (.string a0_1)∧w'.cell? ⟨gb579,2,none⟩=some (.int .i64 a0_2)∧w'.cell? ⟨gb579,3,none⟩=some (.string a0_3)∧w'.cell? ⟨gb579,4,none⟩=some (.bool a0_4)∧w'.cell? ⟨gb579,5,none⟩=some (.slice A0_5 l0_5.length c0_5)∧w'.cell? ⟨gb579,6,none⟩=some (.string a0_6)) (ds:= []) (hold7_ BK579.out) (fun hHeld=>?_);refine with_tabW spec_l6head.tab3 spec_l6head.bits3 (fun HT_ HW_=>?_);generalize w6.drew=w14 at BK579 HB hHeld ⊢;refine pz 0 15 ?_;refine pz 5 20 ?_;refine tk3_ 1 16 hHeld ?_;refine tk3_ 6 21 hHeld ?_;refine ozZ 2 17 Tryz.func81 #[.int .i64 a0_2] (spec_DecText.calls k a0_2 t580 _ A9.out) (fun K hK=>?_);rintro w15 hb;replace BK579:=Aside0.mk (blk_below zz67 hb);replace HB:=Aside0.mk (below_step zz35 hb);(try clear hb);(try clear hb2);(try clear hk);(try clear hi);refine hK.out _ _ (hold7_ BK579.out) (fun hHeld=>?_);clear hK K;refine nz ?_;refine pz 3 18 ?_;refine pz 4 19 ?_;refine pz 7 22 ?_;refine pz 8 23 ?_;refine pz 9 3 ?_;refine done_ (done_of HT_.out (by kernel_rfl)) ?_;(try go_wp2);go_meet
          case rel=>exact⟨_,(((((⟨#[72,84,84,80,47,49,46,49,32]⟩:ByteArray)++t580)++(⟨#[32]⟩:ByteArray))++a0_3)++(⟨#[13,10]⟩:ByteArray)),zz4,H',⟨zz55⟩,⟨zz67⟩,⟨zz35⟩⟩
         ·rw[if_neg c13]at H;exact absurd H (by simp)
        ·rw[if_neg c12]at H;exact absurd H (by simp)
       ·rw[if_neg c11]at H;exact absurd H (by simp)
      ·rw[if_neg c10]at H;exact absurd H (by simp)
     ·rw[if_neg c8]at H;have c8b0:(a0_0.toList==([]:List UInt8))=false:=beq_eq_false_iff_ne.mpr c8;have c8e:a0_0.toList.isEmpty=false:=by cases hz_:a0_0.toList with|nil=>(rw[hz_]at c8b0;exact absurd c8b0 (by decide))|cons _ _=>rfl
      (try rw[c8e]);have c8b1:(a0_0.toList !=([]:List UInt8))=true:=bne_iff_ne.mpr c8;(first|rw[c8b0]|(simp only[i64_w,i32_w];rw[c8b0])|rw[c8b1]|(rw[c8b2];simp only[Bool.not_true,Bool.not_false])|skip);have H':=Aside0.mk H;clear H;go_wp2
      go_meet
      case rel=>exact⟨_,(((a0_0++(⟨#[32]⟩:ByteArray))++a0_1)++(⟨#[32,72,84,84,80,47,49,46,49,13,10]⟩:ByteArray)),zz4,H',⟨zz55⟩,⟨zz67⟩,⟨zz35⟩⟩
    case rest=>as_aux_lemma=>
     clear HC5;(try clear c1);(try clear c2);(try clear c2b0);(try clear c2b1);(try clear c2b2);(try clear p2);(try clear c3);(try clear c3b0);(try clear c3b1);(try clear c3b2);(try clear c4);(try clear c4b0);(try clear c4b1);(try clear c4b2);(try clear c8);(try clear c8b0);(try clear c8b1);(try clear c10);(try clear c10b0);(try clear c10b1);(try clear c10b2);(try clear c11);(try clear c11b0);(try clear c11b1);(try clear c11b2);(try clear c12);(try clear c12b0);(try clear c12b1);(try clear c12b2);(try clear c13);(try clear c13b0);(try clear c13b1);(try clear c13b2);(try clear hcz7_0);(try clear hcz7_1);(try clear hcz7_2);(try clear hcz7_3);(try clear hcz7_4);(try clear hcz7_5);(try clear hcz7_6);(try clear hfz7_0);(try clear hfz7_1);(try clear hfz7_2);(try clear hfz7_3);(try clear hfz7_4);(try clear hfz7_5);(try clear hfz7_6);obtain⟨kq,x3_4,rfl,HA,HJ4,BK579,HB⟩:=hcut
     cases kq with
     |zero=>exact absurd HA.out (by simp[spec_l6head.j0])
     |succ kj4=>
      have H:=HA.out;clear HA;simp only[spec_l6head.j0]at H;have H':=Aside0.mk H;clear H;go_wp2
      go_loopg [3,4] kj4 (fun kq v3 v4 w'=> ∃(x3_2:ByteArray) (x4_2:Int),v3= .string x3_2∧v4= .int .i64 x4_2∧Aside0 (spec_l6head.l0 kq x3_2 x4_2 a0_0 a0_1 a0_2 a0_3 a0_4 l0_5 a0_6=some r)∧Aside0 (kq≤kj4)∧Aside0 (w'.heap[gb579]?=some (.cells #[.string a0_0,.string a0_1,.int .i64 a0_2,.string a0_3,.bool a0_4,(.slice A0_5 l0_5.length c0_5),.string a0_6] 34 (0,0)))∧Aside0 (Below w.heap.size w w'))
      case atStart=>exact⟨(x3_4),(0),zz4,zz4,H',⟨Nat.le_refl _⟩,⟨zz67⟩,⟨zz35⟩⟩
      case round=>as_aux_lemma=>
       clear H';(try clear c1);(try clear c2);(try clear c2b0);(try clear c2b1);(try clear c2b2);(try clear p2);(try clear c3);(try clear c3b0);(try clear c3b1);(try clear c3b2);(try clear c4);(try clear c4b0);(try clear c4b1);(try clear c4b2);(try clear c8);(try clear c8b0);(try clear c8b1);(try clear c10);(try clear c10b0);(try clear c10b1);(try clear c10b2);(try clear c11);(try clear c11b0);(try clear c11b1);(try clear c11b2);(try clear c12);(try clear c12b0);(try clear c12b1);(try clear c12b2);(try clear c13);(try clear c13b0);(try clear c13b1);(try clear c13b2);(try clear hcz7_0);(try clear hcz7_1);(try clear hcz7_2);(try clear hcz7_3);(try clear hcz7_4);(try clear hcz7_5);(try clear hcz7_6);(try clear hfz7_0);(try clear hfz7_1);(try clear hfz7_2);(try clear hfz7_3);(try clear hfz7_4);(try clear hfz7_5);(try clear hfz7_6);(try clear p2);obtain⟨x3_2,x4_2,rfl,rfl,HA,HK2,BK579,HB⟩:=hrel
       cases gk with
       |zero=>exact absurd HA.out (by simp[spec_l6head.l0])
       |succ k2=>
        have H:=HA.out;clear HA;simp only[spec_l6head.l0]at H
        by_cases c16:x4_2<(l0_5.length:Int)
        ·rw[if_pos c16]at H;have c16b0:decide (x4_2<(l0_5.length:Int))=true:=decide_eq_true c16;clear c16
         by_cases c17:0≤x4_2
         ·rw[if_pos c17]at H;have c17b0:decide (0≤x4_2)=true:=decide_eq_true c17;clear c17;replace H:=Option.bind_eq_some_iff.mp H;obtain⟨t582,A180,H⟩:=H;(try dsimp only at H);have A18:=Aside0.mk A180;clear A180
          by_cases c19:x3_2.size+t582.size≤9223372036854775807
          ·rw[if_pos c19]at H;have c19b0:=eq_true c19;have c19b1:decide (x3_2.size+t582.size≤9223372036854775807)=true:=decide_eq_true c19;try have c19b2:(9223372036854775807<x3_2.size+t582.size)=False:=eq_false (Nat.not_lt.2 c19)
           by_cases c20:(x3_2++t582).size+2≤9223372036854775807
           ·rw[if_pos c20]at H;have c20b0:=eq_true c20;have c20b1:decide ((x3_2++t582).size+2≤9223372036854775807)=true:=decide_eq_true c20;(try have c20b2:(9223372036854775807<(x3_2++t582).size+2)=False:=eq_false (Nat.not_lt.2 c20));(try have c20z:=c20b2;simp only[ByteArray.size_append]at c20z;have c20b3:=c20z);have H':=Aside0.mk H;clear H;obtain⟨_,_,_,_,_,_,_,_,_,_,_,_,_,_⟩:=cells7_ BK579.out;have p581:0≤(x4_2:Int):=of_decide_eq_true zz16;have q581:x4_2<(l0_5.length:Int):=of_decide_eq_true zz16;obtain⟨ad581,e581,W581⟩:=at_T82 HR0_5.out x4_2 p581 q581;cases e581;obtain⟨hx581_0,hx581_1⟩:=El82.up HB.out W581;replace p581:=eq_true p581;replace q581:=eq_true q581;go_wp2_with (first|((with_reducible refine gate_callee (f:=82) rfl ?_);refine goesR_ 37 Tryz.func82 #[.agg #[.string ((rd_T82 l0_5 x4_2).f0),.string ((rd_T82 l0_5 x4_2).f1)]] (spec_FieldText.calls k2 ((rd_T82 l0_5 x4_2).f0) ((rd_T82 l0_5 x4_2).f1) t582 _ A18.out) ?_;rintro w22 hb;replace BK579:=Aside0.mk (blk_below zz67 hb);replace HB:=Aside0.mk (below_step zz35 hb);(try clear hb)))
            go_roundg k2
            (case measure=>have:=HJ4.out;have:=HK2.out;omega);case rel=>exact⟨((x3_2++t582)++(⟨#[13,10]⟩:ByteArray)),(wrap64 (x4_2+1)),zz4,zz4,H',⟨by have:=HJ4.out;have:=HK2.out;omega⟩,⟨zz67⟩,⟨zz35⟩⟩
           ·rw[if_neg c20]at H;exact absurd H (by simp)
          ·rw[if_neg c19]at H;exact absurd H (by simp)
         ·rw[if_neg c17]at H;exact absurd H (by simp)
        ·as_aux_lemma=>
         rw[if_neg c16]at H;have c16b0:decide (x4_2<(l0_5.length:Int))=false:=decide_eq_false c16;clear c16;have HC23:=Aside0.mk H;clear H;obtain⟨_,_,_,_,_,_,_,_,_,_,_,_,_,_⟩:=cells7_ BK579.out
         repeat' (first|(go_big_may;(fail))|go_values|go_skip|go_big_skip|go_big_want|((first|(with_reducible refine gate_nog rfl ?_)|(fail_if_success with_reducible refine gate_any ?_));go_step)|go_upon|simp only[Bool.not_true,Bool.not_false,Bool.true_and,Bool.false_and,Bool.true_or,Bool.false_or]|dsimp only)
         have H:=HC23.out;clear HC23
         by_cases c25:a0_0.toList=([]:List UInt8)
         ·as_aux_lemma=>
          rw[if_pos c25]at H;have c25b0:(a0_0.toList==([]:List UInt8))=true:=beq_iff_eq.mpr c25;have c25e:a0_0.toList.isEmpty=true:=by have hz_:=beq_iff_eq.1 c25b0;rw[hz_];rfl
          (try rw[c25e]);have c25b1:(a0_0.toList !=([]:List UInt8))=false:=bne_eq_false_iff_eq.mpr c25;clear c25;(first|rw[c25b0]|(simp only[i64_w,i32_w];rw[c25b0])|rw[c25b1]|(rw[c25b2];simp only[Bool.not_true,Bool.not_false])|skip)
          by_cases c26:a0_4=true
          ·subst c26;rw[if_pos rfl]at H
           by_cases c27:x3_2.size+2≤9223372036854775807
           ·rw[if_pos c27]at H;have c27b0:=eq_true c27;have c27b1:decide (x3_2.size+2≤9223372036854775807)=true:=decide_eq_true c27;(try have c27b2:(9223372036854775807<x3_2.size+2)=False:=eq_false (Nat.not_lt.2 c27));obtain rfl:=Option.some.inj H;obtain⟨_,_,_,_,_,_,_,_,_,_,_,_,_,_⟩:=cells7_ BK579.out;go_wp2
            go_ret;exact⟨zz1,zz35⟩
           ·rw[if_neg c27]at H;exact absurd H (by simp)
          ·as_aux_lemma=>
           replace c26:=Bool.eq_false_iff.mpr c26;subst c26;rw[if_neg Bool.false_ne_true]at H
           by_cases c29:x3_2.size+16≤9223372036854775807
           ·as_aux_lemma=>
            rw[if_pos c29]at H;have c29b0:=eq_true c29;have c29b1:decide (x3_2.size+16≤9223372036854775807)=true:=decide_eq_true c29;(try have c29b2:(9223372036854775807<x3_2.size+16)=False:=eq_false (Nat.not_lt.2 c29));replace H:=Option.bind_eq_some_iff.mp H;obtain⟨t583,A300,H⟩:=H;(try dsimp only at H);have A30:=Aside0.mk A300;clear A300
            by_cases c31:(x3_2++(⟨#[67,111,110,116,101,110,116,45,76,101,110,103,116,104,58,32]⟩:ByteArray)).size+t583.size≤9223372036854775807
            ·rw[if_pos c31]at H;have c31b0:=eq_true c31;have c31b1:decide ((x3_2++(⟨#[67,111,110,116,101,110,116,45,76,101,110,103,116,104,58,32]⟩:ByteArray)).size+t583.size≤9223372036854775807)=true:=decide_eq_true c31;(try have c31b2:(9223372036854775807<(x3_2++(⟨#[67,111,110,116,101,110,116,45,76,101,110,103,116,104,58,32]⟩:ByteArray)).size+t583.size)=False:=eq_false (Nat.not_lt.2 c31));try have c31z:=c31b2;simp only[ByteArray.size_append,show(⟨#[67,111,110,116,101,110,116,45,76,101,110,103,116,104,58,32]⟩:ByteArray).size=16 from rfl]at c31z;have c31b3:=c31z
             by_cases c32:((x3_2++(⟨#[67,111,110,116,101,110,116,45,76,101,110,103,116,104,58,32]⟩:ByteArray))++t583).size+2≤9223372036854775807
             ·rw[if_pos c32]at H;have c32b0:=eq_true c32;have c32b1:decide (((x3_2++(⟨#[67,111,110,116,101,110,116,45,76,101,110,103,116,104,58,32]⟩:ByteArray))++t583).size+2≤9223372036854775807)=true:=decide_eq_true c32;(try have c32b2:(9223372036854775807<((x3_2++(⟨#[67,111,110,116,101,110,116,45,76,101,110,103,116,104,58,32]⟩:ByteArray))++t583).size+2)=False:=eq_false (Nat.not_lt.2 c32));try have c32z:=c32b2;simp only[ByteArray.size_append,show(⟨#[67,111,110,116,101,110,116,45,76,101,110,103,116,104,58,32]⟩:ByteArray).size=16 from rfl]at c32z;have c32b3:=c32z
              by_cases c33:(((x3_2++(⟨#[67,111,110,116,101,110,116,45,76,101,110,103,116,104,58,32]⟩:ByteArray))++t583)++(⟨#[13,10]⟩:ByteArray)).size+2≤9223372036854775807
              ·rw[if_pos c33]at H;have c33b0:=eq_true c33;have c33b1:decide ((((x3_2++(⟨#[67,111,110,116,101,110,116,45,76,101,110,103,116,104,58,32]⟩:ByteArray))++t583)++(⟨#[13,10]⟩:ByteArray)).size+2≤9223372036854775807)=true:=decide_eq_true c33;(try have c33b2:(9223372036854775807<(((x3_2++(⟨#[67,111,110,116,101,110,116,45,76,101,110,103,116,104,58,32]⟩:ByteArray))++t583)++(⟨#[13,10]⟩:ByteArray)).size+2)=False:=eq_false (Nat.not_lt.2 c33));(try have c33z:=c33b2;simp only[ByteArray.size_append,show(⟨#[13,10]⟩:ByteArray).size=2 from rfl,show(⟨#[67,111,110,116,101,110,116,45,76,101,110,103,116,104,58,32]⟩:ByteArray).size=16 from rfl]at c33z;have c33b3:=c33z);obtain rfl:=Option.some.inj H;obtain⟨_,_,_,_,_,_,_,_,_,_,_,_,_,_⟩:=cells7_ BK579.out;go_wp2_with (first|((with_reducible refine gate_callee (f:=81) rfl ?_);refine goesR_ 63 Tryz.func81 #[.int .i64 (a0_6.size:Int)] (spec_DecText.calls k2 (a0_6.size:Int) t583 _ A30.out) ?_;rintro w35 hb;replace BK579:=Aside0.mk (blk_below zz67 hb);replace HB:=Aside0.mk (below_step zz35 hb);(try clear hb)))
               go_ret;exact⟨zz1,zz35⟩
              ·rw[if_neg c33]at H;exact absurd H (by simp)
             ·rw[if_neg c32]at H;exact absurd H (by simp)
            ·rw[if_neg c31]at H;exact absurd H (by simp)
           ·rw[if_neg c29]at H;exact absurd H (by simp)
         ·as_aux_lemma=>
          rw[if_neg c25]at H;have c25b0:(a0_0.toList==([]:List UInt8))=false:=beq_eq_false_iff_ne.mpr c25;have c25e:a0_0.toList.isEmpty=false:=by cases hz_:a0_0.toList with|nil=>(rw[hz_]at c25b0;exact absurd c25b0 (by decide))|cons _ _=>rfl
          (try rw[c25e]);have c25b1:(a0_0.toList !=([]:List UInt8))=true:=bne_iff_ne.mpr c25;(first|rw[c25b0]|(simp only[i64_w,i32_w];rw[c25b0])|rw[c25b1]|(rw[c25b2];simp only[Bool.not_true,Bool.not_false])|skip);have HC36:=Aside0.mk H;clear H;obtain⟨_,_,_,_,_,_,_,_,_,_,_,_,_,_⟩:=cells7_ BK579.out
          repeat' (first|(go_big_may;(fail))|go_values|go_skip|go_big_skip|go_big_want|((first|(with_reducible refine gate_nog rfl ?_)|(fail_if_success with_reducible refine gate_any ?_));go_step)|go_upon|simp only[Bool.not_true,Bool.not_false,Bool.true_and,Bool.false_and,Bool.true_or,Bool.false_or]|dsimp only)
          have H:=HC36.out;clear HC36
          by_cases c38:a0_6.toList=([]:List UInt8)
          ·rw[if_pos c38]at H;have c38b0:(a0_6.toList==([]:List UInt8))=true:=beq_iff_eq.mpr c38;have c38e:a0_6.toList.isEmpty=true:=by have hz_:=beq_iff_eq.1 c38b0;rw[hz_];rfl
           (try rw[c38e]);have c38b1:(a0_6.toList !=([]:List UInt8))=false:=bne_eq_false_iff_eq.mpr c38;clear c38;(first|rw[c38b0]|(simp only[i64_w,i32_w];rw[c38b0])|rw[c38b1]|(rw[c38b2];simp only[Bool.not_true,Bool.not_false])|skip)
           by_cases c39:x3_2.size+2≤9223372036854775807
           ·rw[if_pos c39]at H;have c39b0:=eq_true c39;have c39b1:decide (x3_2.size+2≤9223372036854775807)=true:=decide_eq_true c39;(try have c39b2:(9223372036854775807<x3_2.size+2)=False:=eq_false (Nat.not_lt.2 c39));obtain rfl:=Option.some.inj H;obtain⟨_,_,_,_,_,_,_,_,_,_,_,_,_,_⟩:=cells7_ BK579.out;go_wp2
            go_ret;exact⟨zz1,zz35⟩
           ·rw[if_neg c39]at H;exact absurd H (by simp)
          ·as_aux_lemma=>
           rw[if_neg c38]at H;have c38b0:(a0_6.toList==([]:List UInt8))=false:=beq_eq_false_iff_ne.mpr c38;have c38e:a0_6.toList.isEmpty=false:=by cases hz_:a0_6.toList with|nil=>(rw[hz_]at c38b0;exact absurd c38b0 (by decide))|cons _ _=>rfl
           (try rw[c38e]);have c38b1:(a0_6.toList !=([]:List UInt8))=true:=bne_iff_ne.mpr c38;(first|rw[c38b0]|(simp only[i64_w,i32_w];rw[c38b0])|rw[c38b1]|(rw[c38b2];simp only[Bool.not_true,Bool.not_false])|skip);try generalize hgz_:(!false)=gfz_
           by_cases c41:x3_2.size+16≤9223372036854775807
           ·as_aux_lemma=>
            rw[if_pos c41]at H;have c41b0:=eq_true c41;have c41b1:decide (x3_2.size+16≤9223372036854775807)=true:=decide_eq_true c41;(try have c41b2:(9223372036854775807<x3_2.size+16)=False:=eq_false (Nat.not_lt.2 c41));replace H:=Option.bind_eq_some_iff.mp H;obtain⟨t584,A420,H⟩:=H;(try dsimp only at H);have A42:=Aside0.mk A420;clear A420
            by_cases c43:(x3_2++(⟨#[67,111,110,116,101,110,116,45,76,101,110,103,116,104,58,32]⟩:ByteArray)).size+t584.size≤9223372036854775807
            ·rw[if_pos c43]at H;have c43b0:=eq_true c43;have c43b1:decide ((x3_2++(⟨#[67,111,110,116,101,110,116,45,76,101,110,103,116,104,58,32]⟩:ByteArray)).size+t584.size≤9223372036854775807)=true:=decide_eq_true c43;(try have c43b2:(9223372036854775807<(x3_2++(⟨#[67,111,110,116,101,110,116,45,76,101,110,103,116,104,58,32]⟩:ByteArray)).size+t584.size)=False:=eq_false (Nat.not_lt.2 c43));try have c43z:=c43b2;simp only[ByteArray.size_append,show(⟨#[67,111,110,116,101,110,116,45,76,101,110,103,116,104,58,32]⟩:ByteArray).size=16 from rfl]at c43z;have c43b3:=c43z
             by_cases c44:((x3_2++(⟨#[67,111,110,116,101,110,116,45,76,101,110,103,116,104,58,32]⟩:ByteArray))++t584).size+2≤9223372036854775807
             ·rw[if_pos c44]at H;have c44b0:=eq_true c44;have c44b1:decide (((x3_2++(⟨#[67,111,110,116,101,110,116,45,76,101,110,103,116,104,58,32]⟩:ByteArray))++t584).size+2≤9223372036854775807)=true:=decide_eq_true c44;(try have c44b2:(9223372036854775807<((x3_2++(⟨#[67,111,110,116,101,110,116,45,76,101,110,103,116,104,58,32]⟩:ByteArray))++t584).size+2)=False:=eq_false (Nat.not_lt.2 c44));try have c44z:=c44b2;simp only[ByteArray.size_append,show(⟨#[67,111,110,116,101,110,116,45,76,101,110,103,116,104,58,32]⟩:ByteArray).size=16 from rfl]at c44z;have c44b3:=c44z
              by_cases c45:(((x3_2++(⟨#[67,111,110,116,101,110,116,45,76,101,110,103,116,104,58,32]⟩:ByteArray))++t584)++(⟨#[13,10]⟩:ByteArray)).size+2≤9223372036854775807
              ·rw[if_pos c45]at H;have c45b0:=eq_true c45;have c45b1:decide ((((x3_2++(⟨#[67,111,110,116,101,110,116,45,76,101,110,103,116,104,58,32]⟩:ByteArray))++t584)++(⟨#[13,10]⟩:ByteArray)).size+2≤9223372036854775807)=true:=decide_eq_true c45;(try have c45b2:(9223372036854775807<(((x3_2++(⟨#[67,111,110,116,101,110,116,45,76,101,110,103,116,104,58,32]⟩:ByteArray))++t584)++(⟨#[13,10]⟩:ByteArray)).size+2)=False:=eq_false (Nat.not_lt.2 c45));(try have c45z:=c45b2;simp only[ByteArray.size_append,show(⟨#[13,10]⟩:ByteArray).size=2 from rfl,show(⟨#[67,111,110,116,101,110,116,45,76,101,110,103,116,104,58,32]⟩:ByteArray).size=16 from rfl]at c45z;have c45b3:=c45z);obtain rfl:=Option.some.inj H;obtain⟨_,_,_,_,_,_,_,_,_,_,_,_,_,_⟩:=cells7_ BK579.out;(try subst hgz_);go_wp2_with (first|((with_reducible refine gate_callee (f:=81) rfl ?_);refine goesR_ 63 Tryz.func81 #[.int .i64 (a0_6.size:Int)] (spec_DecText.calls k2 (a0_6.size:Int) t584 _ A42.out) ?_;rintro w47 hb;replace BK579:=Aside0.mk (blk_below zz67 hb);replace HB:=Aside0.mk (below_step zz35 hb);(try clear hb)))
               go_ret;exact⟨zz1,zz35⟩
              ·rw[if_neg c45]at H;exact absurd H (by simp)
             ·rw[if_neg c44]at H;exact absurd H (by simp)
            ·rw[if_neg c43]at H;exact absurd H (by simp)
           ·rw[if_neg c41]at H;exact absurd H (by simp)
   ·rw[if_neg c4]at H;exact absurd H (by simp)
  ·rw[if_neg c3]at H;exact absurd H (by simp)
 ·rw[if_neg c2]at H;exact absurd H (by simp)
end Go.Proofs.YtnilblnhlpnpgaaGreatDoor.GFnTwice
