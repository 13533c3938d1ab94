-- Printed by gen.py and its programs for this claim.
import Derived.Test.YtnilblnhlpnpgaaGreatDoorGFnChunksx0
import Derived.Test.YtnilblnhlpnpgaaGreatDoorGFnChunksx1
import Derived.Test.YtnilblnhlpnpgaaGreatDoorGFnChunksx2
import Derived.Test.YtnilblnhlpnpgaaGreatDoorZFnChunks
namespace Go.Proofs.YtnilblnhlpnpgaaGreatDoor.GFnChunks
open Go.RowKit Go.Proofs.YtnilblnhlpnpgaaGreatDoorW.PrintWords Go.Proofs.YtnilblnhlpnpgaaGreatDoorW.PrintLast Go.Proofs.YtnilblnhlpnpgaaGreatDoorW.PrintMore Go.Proofs.YtnilblnhlpnpgaaGreatDoorW.Zs
set_option maxHeartbeats 40000000
set_option maxRecDepth 100000
attribute [local go_sem] max2_int min2_int max_two min_two max_three min_three max_four min_four
set_option linter.unusedVariables false
set_option linter.unusedSimpArgs false
def impl_TakeLine.j0:Nat→ByteArray→Int→Bool→ByteArray→Int→Option (ByteArray×ByteArray×Int×Int)
 |0,_,_,_,_,_=>none
 |k+1,x5,x6,x18,x171000,x171001=>if x18=true then(some ((⟨#[]⟩:ByteArray),(⟨#[]⟩:ByteArray),0,1))else(if 0≤x6 then(if x6<(x5.size:Int)then(if(bt x5 x6)=13 then(if 0≤(wrap64 (x6+1))then(if(wrap64 (x6+1))<(x5.size:Int)then(if(bt x5 (wrap64 (x6+1)))=10 then(if x6≤(x5.size:Int)then(some (x5.extract 0 (x6:Int).toNat,x171000,wrap64 ((wrap64 (x171001+x6))+2),0))else(none))else(some ((⟨#[]⟩:ByteArray),(⟨#[]⟩:ByteArray),0,2)))else(none))else(none))else(some ((⟨#[]⟩:ByteArray),(⟨#[]⟩:ByteArray),0,2)))else(none))else(none))
def impl_TakeLine.f (k:Nat) (a0_0:ByteArray) (a0_1:Int):Option (ByteArray×ByteArray×Int×Int):=(impl_CurOk.f a0_0 a0_1).bind fun t172=>(if t172=true then(if 0≤a0_1 then(if a0_1≤(a0_0.size:Int)then((strings_IndexAny.f (a0_0.extract (a0_1:Int).toNat a0_0.size) (⟨#[13,10]⟩:ByteArray)).bind fun t173=>(if t173<0 then(impl_TakeLine.j0 k (a0_0.extract (a0_1:Int).toNat a0_0.size) t173 true a0_0 a0_1)else(if 0≤t173 then(if t173<((a0_0.extract (a0_1:Int).toNat a0_0.size).size:Int)then(if(bt (a0_0.extract (a0_1:Int).toNat a0_0.size) t173)=13 then(impl_TakeLine.j0 k (a0_0.extract (a0_1:Int).toNat a0_0.size) t173 (t173==(wrap64 (((a0_0.extract (a0_1:Int).toNat a0_0.size).size:Int)-1))) a0_0 a0_1)else(impl_TakeLine.j0 k (a0_0.extract (a0_1:Int).toNat a0_0.size) t173 false a0_0 a0_1))else(none))else(none))))else(none))else(none))else(some ((⟨#[]⟩:ByteArray),(⟨#[]⟩:ByteArray),0,2)))
def impl_TakeLine.T8:Bool×List (List Nat×List Nat):=(true,[([],[]),([],[]),([0,1],[0,1]),([],[]),([3],[3]),([],[]),([5],[5]),([],[]),([6,7],[6,7]),([8],[8]),([4,9],[4,9]),([2,0,1,2],[2]),([10,11,0,1,2,3,4,5,6,7,8,9,10,11],[10]),([12,0,1,2,3,4,5,6,7,8,9,10,11,12],[])])
def impl_TakeLine.B8:List Nat:= [0,0,3,0,8,0,32,0,224,480,1016,7,4095,8191]
theorem impl_TakeLine.tab8:rtab .any (opsOf Tryz.f31 8)=impl_TakeLine.T8:=by kernel_rfl
theorem impl_TakeLine.bits8:waitsOk impl_TakeLine.T8.2 impl_TakeLine.B8=true:=by kernel_rfl
theorem impl_TakeLine.calls (k:Nat) (a0_0:ByteArray) (a0_1:Int) (r1 r2:ByteArray) (r3 r4:Int) (w:World) (h:impl_TakeLine.f k a0_0 a0_1=some (r1,r2,r3,r4)):
  Calls Tryz.prog 31 #[.agg #[.string a0_0,.int .i64 a0_1]] w fun e w'=>e= .returned (.tuple #[.string r1,.agg #[.string r2,.int .i64 r3],.int .i64 r4])∧Below w.heap.size w w':=by
 have hu41:=Tryz.underlying41;have HB:=Aside0.mk (Below.refl w.heap.size w);have H:((impl_CurOk.f a0_0 a0_1).bind fun t172=>(if t172=true then(if 0≤a0_1 then(if a0_1≤(a0_0.size:Int)then((strings_IndexAny.f (a0_0.extract (a0_1:Int).toNat a0_0.size) (⟨#[13,10]⟩:ByteArray)).bind fun t173=>(if t173<0 then(impl_TakeLine.j0 k (a0_0.extract (a0_1:Int).toNat a0_0.size) t173 true a0_0 a0_1)else(if 0≤t173 then(if t173<((a0_0.extract (a0_1:Int).toNat a0_0.size).size:Int)then(if(bt (a0_0.extract (a0_1:Int).toNat a0_0.size) t173)=13 then(impl_TakeLine.j0 k (a0_0.extract (a0_1:Int).toNat a0_0.size) t173 (t173==(wrap64 (((a0_0.extract (a0_1:Int).toNat a0_0.size).size:Int)-1))) a0_0 a0_1)else(impl_TakeLine.j0 k (a0_0.extract (a0_1:Int).toNat a0_0.size) t173 false a0_0 a0_1))else(none))else(none))))else(none))else(none))else(some ((⟨#[]⟩:ByteArray),(⟨#[]⟩:ByteArray),0,2))))=some (r1,r2,r3,r4):=h;clear h;replace H:=Option.bind_eq_some_iff.mp H;obtain⟨t172,A20,H⟩:=H;(try dsimp only at H);have A2:=Aside0.mk A20;clear A20;have HC3:=Aside0.mk H;clear H;go_enter Tryz.func31,Tryz.ntmps31
 go_upto_if 9 with(first|((with_reducible refine gate_dst (N:=1) rfl ?_);(try(refine gate_guard (by rfl) ?_;dsimp only));refine boxP_ (N:=1) (cs:= #[.string a0_0,.int .i64 a0_1]) (t:=41) ?_;intro gb170 hg w4 hbox hb;have BK170:=Aside0.mk (hbox);have GE170:=geb_ (w:=w) hg zz0;replace HB:=Aside0.mk (below_step zz0 hb);clear hb hbox hg)|((with_reducible refine gate_dst (N:=3) rfl ?_);(try(refine gate_guard (by rfl) ?_;dsimp only));refine boxP_ (N:=3) (cs:= #[.string (⟨#[]⟩:ByteArray),.int .i64 0]) (t:=41) ?_;intro gb171 hg w5 hbox hb;have BK171:=Aside0.mk (hbox);have GE171:=geb_ (w:=w) hg zz101;replace HB:=Aside0.mk (below_step zz101 hb);have NB170_171:=nbL_ (g:=gb170) hg zz41;have NB171_170:=nbG_ (g:=gb170) hg zz41;replace BK170:=Aside0.mk (blk_below zz41 hb);clear hb hbox hg;have hnb6:=NB170_171.out;have hnc6:=NB171_170.out;obtain⟨_,_,_,_⟩:=cells2_ BK170.out)|((with_reducible refine gate_callee (f:=71) rfl ?_);refine goesR_ 8 Tryz.func71 #[.agg #[.string a0_0,.int .i64 a0_1]] (impl_CurOk.calls a0_0 a0_1 t172 _ A2.out) ?_;rintro w8 hb;replace BK170:=Aside0.mk (blk_below zz41 hb);replace BK171:=Aside0.mk (blk_below zz77 hb);replace HB:=Aside0.mk (below_step zz22 hb);(try clear hb)))
 (try simp only[Act.put,List.setIfInBounds_toArray,List.set_cons_zero,List.set_cons_succ]);have H:=HC3.out;clear HC3
 by_cases c9:t172=true
 ·subst c9;rw[if_pos rfl]at H
  by_cases c10:0≤a0_1
  ·rw[if_pos c10]at H;have c10b0:=eq_true c10;have c10b1:decide (0≤a0_1)=true:=decide_eq_true c10;clear c10
   by_cases c11:a0_1≤(a0_0.size:Int)
   ·rw[if_pos c11]at H;have c11b0:=eq_true c11;have c11b1:decide (a0_1≤(a0_0.size:Int))=true:=decide_eq_true c11;clear c11;replace H:=Option.bind_eq_some_iff.mp H;obtain⟨t173,A120,H⟩:=H;(try dsimp only at H);have A12:=Aside0.mk A120;clear A120;have HC13:=Aside0.mk H;clear H;have hnb14:=NB170_171.out;have hnc14:=NB171_170.out;obtain⟨_,_,_,_⟩:=cells2_ BK170.out;go_upto_region 5 with(first|((with_reducible refine gate_callee (f:=72) rfl ?_);refine goesR_ 17 Tryz.func72 #[.string (a0_0.extract (a0_1:Int).toNat a0_0.size),.string (⟨#[13,10]⟩:ByteArray)] (strings_IndexAny.calls (a0_0.extract (a0_1:Int).toNat a0_0.size) (⟨#[13,10]⟩:ByteArray) t173 _ A12.out) ?_;rintro w16 hb;replace BK170:=Aside0.mk (blk_below zz41 hb);replace BK171:=Aside0.mk (blk_below zz77 hb);replace HB:=Aside0.mk (below_step zz22 hb);(try clear hb)))
    (try simp only[Act.put,List.setIfInBounds_toArray,List.set_cons_zero,List.set_cons_succ]);go_cut [18] (fun v18 wc=> ∃(kq:Nat) (x18_12:Bool),v18= .bool x18_12∧Aside0 (impl_TakeLine.j0 kq (a0_0.extract (a0_1:Int).toNat a0_0.size) t173 x18_12 a0_0 a0_1=some (r1,r2,r3,r4))∧Aside0 (kq≤k)∧Aside0 (wc.heap[gb170]?=some (.cells #[.string a0_0,.int .i64 a0_1] 41 (0,0)))∧Aside0 (wc.heap[gb171]?=some (.cells #[.string (⟨#[]⟩:ByteArray),.int .i64 0] 41 (0,0)))∧Aside0 (Below w.heap.size w wc))
    case first=>
     have H:=HC13.out;clear HC13
     by_cases c17:t173<0
     ·rw[if_pos c17]at H;have c17b0:decide (t173<0)=true:=decide_eq_true c17;clear c17;(first|rw[c17b0]|(simp only[i64_w,i32_w];rw[c17b0])|skip);have H':=Aside0.mk H;clear H;go_wp2
      go_meet
      case rel=>exact⟨_,(true),zz4,H',⟨zz42⟩,⟨zz41⟩,⟨zz77⟩,⟨zz22⟩⟩
     ·rw[if_neg c17]at H;have c17b0:decide (t173<0)=false:=decide_eq_false c17;clear c17;(first|rw[c17b0]|(simp only[i64_w,i32_w];rw[c17b0])|skip)
      by_cases c18:0≤t173
      ·rw[if_pos c18]at H;have c18b0:decide (0≤t173)=true:=decide_eq_true c18;clear c18
       by_cases c19:t173<((a0_0.extract (a0_1:Int).toNat a0_0.size).size:Int)
       ·rw[if_pos c19]at H;have c19b0:decide (t173<((a0_0.extract (a0_1:Int).toNat a0_0.size).size:Int))=true:=decide_eq_true c19;(try have c19x:=c19b0;simp only[ByteArray.size_extract,Nat.min_self]at c19x;have c19y:=eq_true (of_decide_eq_true c19x));clear c19;have HC21:=Aside0.mk H;clear H;have p20:0≤(t173:Int):=of_decide_eq_true zz12;have q20:t173<((a0_0.extract (a0_1:Int).toNat a0_0.size).size:Int):=of_decide_eq_true zz12;have hx20:=bt_at (a0_0.extract (a0_1:Int).toNat a0_0.size) t173;replace p20:=eq_true p20;replace q20:=eq_true q20
        repeat' (first|(go_big_may;(fail))|go_values|go_skip|go_big_skip|go_big_want|((first|(with_reducible refine gate_nog rfl ?_)|(fail_if_success with_reducible refine gate_any ?_));go_step)|go_upon|simp only[Bool.not_true,Bool.not_false,Bool.true_and,Bool.false_and,Bool.true_or,Bool.false_or]|dsimp only)
        have H:=HC21.out;clear HC21
        by_cases c22:(bt (a0_0.extract (a0_1:Int).toNat a0_0.size) t173)=13
        ·rw[if_pos c22]at H;have c22b0:((bt (a0_0.extract (a0_1:Int).toNat a0_0.size) t173)==13)=true:=beq_iff_eq.mpr c22;have c22b1:((bt (a0_0.extract (a0_1:Int).toNat a0_0.size) t173)!=13)=false:=bne_eq_false_iff_eq.mpr c22;clear c22;(first|rw[c22b0]|(simp only[i64_w,i32_w];rw[c22b0])|rw[c22b1]|(rw[c22b2];simp only[Bool.not_true,Bool.not_false])|skip);have H':=Aside0.mk H;clear H;go_wp2
         go_meet
         case rel=>exact⟨_,((t173==(wrap64 (((a0_0.extract (a0_1:Int).toNat a0_0.size).size:Int)-1)))),zz4,H',⟨zz42⟩,⟨zz41⟩,⟨zz77⟩,⟨zz22⟩⟩
        ·rw[if_neg c22]at H;have c22b0:((bt (a0_0.extract (a0_1:Int).toNat a0_0.size) t173)==13)=false:=beq_eq_false_iff_ne.mpr c22;have c22b1:((bt (a0_0.extract (a0_1:Int).toNat a0_0.size) t173)!=13)=true:=bne_iff_ne.mpr c22;(first|rw[c22b0]|(simp only[i64_w,i32_w];rw[c22b0])|rw[c22b1]|(rw[c22b2];simp only[Bool.not_true,Bool.not_false])|skip);have H':=Aside0.mk H;clear H;go_wp2
         go_meet
         case rel=>exact⟨_,(false),zz4,H',⟨zz42⟩,⟨zz41⟩,⟨zz77⟩,⟨zz22⟩⟩
       ·rw[if_neg c19]at H;exact absurd H (by simp)
      ·rw[if_neg c18]at H;exact absurd H (by simp)
    case rest=>
     clear HC13;(try clear c1);(try clear c2);(try clear p2);(try clear q2);(try clear hx2);(try clear c3);(try clear c6);(try clear p6);(try clear c7);(try clear c9);(try clear c10);(try clear c10b0);(try clear c10b1);(try clear c11);(try clear c11b0);(try clear c11b1);(try clear c14);(try clear c17);(try clear c17b0);(try clear c18);(try clear c18b0);(try clear c19);(try clear c19b0);(try clear p20);(try clear q20);(try clear hx20);(try clear c22);(try clear c22b0);(try clear c22b1);(try clear hcz15_0);(try clear hcz15_1);(try clear hcz7_0);(try clear hcz7_1);(try clear hfz15_0);(try clear hfz15_1);(try clear hfz7_0);(try clear hfz7_1);(try clear p20);(try clear q20);obtain⟨kq,x18_12,rfl,HA,HJ12,BK170,BK171,HB⟩:=hcut
     cases kq with
     |zero=>exact absurd HA.out (by simp[impl_TakeLine.j0])
     |succ kj12=>
      have H:=HA.out;clear HA;simp only[impl_TakeLine.j0]at H
      by_cases c23:x18_12=true
      ·subst c23;rw[if_pos rfl]at H;simp only[Option.some.injEq,Prod.mk.injEq]at H;obtain⟨rfl,rfl,rfl,rfl⟩:=H;have hnb24:=NB171_170.out;have hnc24:=NB170_171.out;obtain⟨_,_,_,_⟩:=cells2_ BK171.out;go_wp2
       refine bodyPost_ret (results_list (rs:= [.tmp 2,.cell 3 41,.tmp 4]) rfl (by simp) (.tmp (.cell gb171 41 #[.string (⟨#[]⟩:ByteArray),.int .i64 0] (0,0) _ rfl zz25 Tryz.underlying41 rfl (by kernel_rfl) (.tmp .nil)))) rfl ?_;exact⟨zz3,zz22⟩
      ·replace c23:=Bool.eq_false_iff.mpr c23;subst c23;rw[if_neg Bool.false_ne_true]at H
       by_cases c26:0≤t173
       ·rw[if_pos c26]at H;have c26b0:decide (0≤t173)=true:=decide_eq_true c26;clear c26
        by_cases c27:t173<((a0_0.extract (a0_1:Int).toNat a0_0.size).size:Int)
        ·rw[if_pos c27]at H;have c27b0:decide (t173<((a0_0.extract (a0_1:Int).toNat a0_0.size).size:Int))=true:=decide_eq_true c27;(try have c27x:=c27b0;simp only[ByteArray.size_extract,Nat.min_self]at c27x;have c27y:=eq_true (of_decide_eq_true c27x));clear c27;have HC29:=Aside0.mk H;clear H;have p28:0≤(t173:Int):=of_decide_eq_true zz12;have q28:t173<((a0_0.extract (a0_1:Int).toNat a0_0.size).size:Int):=of_decide_eq_true zz12;have hx28:=bt_at (a0_0.extract (a0_1:Int).toNat a0_0.size) t173;replace p28:=eq_true p28;replace q28:=eq_true q28
         repeat' (first|(go_big_may;(fail))|go_values|go_skip|go_big_skip|go_big_want|((first|(with_reducible refine gate_nog rfl ?_)|(fail_if_success with_reducible refine gate_any ?_));go_step)|go_upon|simp only[Bool.not_true,Bool.not_false,Bool.true_and,Bool.false_and,Bool.true_or,Bool.false_or]|dsimp only)
         have H:=HC29.out;clear HC29
         by_cases c30:(bt (a0_0.extract (a0_1:Int).toNat a0_0.size) t173)=13
         ·rw[if_pos c30]at H;have c30b0:((bt (a0_0.extract (a0_1:Int).toNat a0_0.size) t173)==13)=true:=beq_iff_eq.mpr c30;have c30b1:((bt (a0_0.extract (a0_1:Int).toNat a0_0.size) t173)!=13)=false:=bne_eq_false_iff_eq.mpr c30;clear c30;(first|rw[c30b0]|(simp only[i64_w,i32_w];rw[c30b0])|rw[c30b1]|(rw[c30b2];simp only[Bool.not_true,Bool.not_false])|skip);obtain⟨ji31,hji31⟩: ∃j_:Int,(wrap64 (t173+1))=j_:=⟨_,rfl⟩;replace H:(if 0≤(ji31)then(if(ji31)<((a0_0.extract (a0_1:Int).toNat a0_0.size).size:Int)then(if(bt (a0_0.extract (a0_1:Int).toNat a0_0.size) (ji31))=10 then(if t173≤((a0_0.extract (a0_1:Int).toNat a0_0.size).size:Int)then(some ((a0_0.extract (a0_1:Int).toNat a0_0.size).extract 0 (t173:Int).toNat,a0_0,wrap64 ((wrap64 (a0_1+t173))+2),0))else(none))else(some ((⟨#[]⟩:ByteArray),(⟨#[]⟩:ByteArray),0,2)))else(none))else(none))=some (r1,r2,r3,r4):=by first|(rw[hji31]at H;exact H)|(simp only[hji31]at H ⊢;exact H)
          have hji31w:(IntKind.i64.wrap (t173+1))=ji31:=(i64_w _).trans hji31
          by_cases c32:0≤(ji31)
          ·rw[if_pos c32]at H;have c32b0:decide (0≤(ji31))=true:=decide_eq_true c32;clear c32
           by_cases c33:(ji31)<((a0_0.extract (a0_1:Int).toNat a0_0.size).size:Int)
           ·rw[if_pos c33]at H;have c33b0:decide ((ji31)<((a0_0.extract (a0_1:Int).toNat a0_0.size).size:Int))=true:=decide_eq_true c33;(try have c33x:=c33b0;simp only[ByteArray.size_extract,Nat.min_self]at c33x;have c33y:=eq_true (of_decide_eq_true c33x));clear c33
            by_cases c35:(bt (a0_0.extract (a0_1:Int).toNat a0_0.size) (ji31))=10
            ·rw[if_pos c35]at H;have c35b0:((bt (a0_0.extract (a0_1:Int).toNat a0_0.size) (ji31))==10)=true:=beq_iff_eq.mpr c35;have c35b1:((bt (a0_0.extract (a0_1:Int).toNat a0_0.size) (ji31))!=10)=false:=bne_eq_false_iff_eq.mpr c35;clear c35;have c36b0:=eq_true (of_decide_eq_true zz12:0≤t173)
             by_cases c37:t173≤((a0_0.extract (a0_1:Int).toNat a0_0.size).size:Int)
             ·rw[if_pos c37]at H;have c37b0:=eq_true c37;have c37b1:decide (t173≤((a0_0.extract (a0_1:Int).toNat a0_0.size).size:Int))=true:=decide_eq_true c37;(try have c37x:=c37b1;simp only[ByteArray.size_extract,Nat.min_self]at c37x;have c37y:=eq_true (of_decide_eq_true c37x));clear c37;simp only[Option.some.injEq,Prod.mk.injEq]at H;obtain⟨rfl,rfl,rfl,rfl⟩:=H;have p34:0≤((ji31):Int):=of_decide_eq_true zz12;have q34:(ji31)<((a0_0.extract (a0_1:Int).toNat a0_0.size).size:Int):=of_decide_eq_true zz12;have hx34:=bt_at (a0_0.extract (a0_1:Int).toNat a0_0.size) (ji31);replace p34:=eq_true p34;replace q34:=eq_true q34;(try go_wp2);replace BK170:=Aside0.mk (blk_drew BK170.out);replace BK171:=Aside0.mk (blk_drew BK171.out);replace HB:=Aside0.mk (below_drew1 HB.out);refine st_ (n:=14) (S:=fun w'=>w'.cell? ⟨gb170,0,none⟩=some (.string a0_0)∧w'.cell? ⟨gb170,1,none⟩=some (.int .i64 a0_1)) (ds:= []) (hold2_ BK170.out) (fun hHeld=>?_);refine with_tabW impl_TakeLine.tab8 impl_TakeLine.bits8 (fun HT_ HW_=>?_);generalize wc.drew=w38 at BK170 BK171 HB hHeld ⊢;refine pz 0 47 ?_;refine pz 1 48 ?_;refine pz 2 49 ?_;refine pz 3 50 ?_;refine pz 5 52 ?_;refine pz 7 54 ?_;refine pz 11 2 ?_;refine tk0_ 4 51 hHeld ?_;refine tk0_ 6 53 hHeld ?_;refine pz 8 55 ?_;refine pz 9 56 ?_;refine pz 10 57 ?_;refine one_ (i:=12) (N:=none) #[true,true,true,true,true,true,true,true,true,true,true,true,true,false] rfl rfl (one_of HT_.out (by kernel_rfl)) (by decide) (fun K hK=>?_);have hs39:w38.cell? ⟨gb171,0,none⟩=some (.string (⟨#[]⟩:ByteArray)):=(blk_cell BK171.out 0).trans rfl;have hfs39:=blk_frozen BK171.out 0;have hns39_0:=NB170_171.out;have hms39_0:=NB171_170.out;have hs40:w38.cell? ⟨gb171,1,none⟩=some (.int .i64 0):=(blk_cell BK171.out 1).trans rfl;have hfs40:=blk_frozen BK171.out 1;have hns40_0:=NB170_171.out;have hms40_0:=NB171_170.out;refine skip_ (w1:=?_) (by rfl) rfl ?_ ?_;rotate_left
              ·go_simp;rfl
              refine hK.out _ _ ⟨((cell_far (p:=⟨gb171,_,none⟩) NB170_171.out _).trans (((cell_far (p:=⟨gb171,_,none⟩) NB170_171.out _).trans (hHeld.1)))),((cell_far (p:=⟨gb171,_,none⟩) NB170_171.out _).trans (((cell_far (p:=⟨gb171,_,none⟩) NB170_171.out _).trans (hHeld.2))))⟩ (fun hHeld=>?_);clear hK K;refine pz 13 4 ?_;refine done_ (done_of HT_.out (by kernel_rfl)) ?_;(try go_wp2);refine bodyPost_ret (results_list (rs:= [.tmp 2,.cell 3 41,.tmp 4]) rfl (by simp) (.tmp (.cell gb171 41 #[.string a0_0,.int .i64 (wrap64 ((wrap64 (a0_1+t173))+2))] (0,0) _ rfl (by(with_reducible repeat(first|refine blk_drewN ?_ _|refine blk_drew ?_|refine blk_alloc ?_ _));refine blk_put (cs:= #[.string a0_0,.int .i64 0]) ?_ 1 _ rfl;(with_reducible repeat(first|refine blk_drewN ?_ _|refine blk_drew ?_|refine blk_alloc ?_ _));refine blk_put (cs:= #[.string (⟨#[]⟩:ByteArray),.int .i64 0]) ?_ 0 _ rfl;(with_reducible repeat(first|refine blk_drewN ?_ _|refine blk_drew ?_|refine blk_alloc ?_ _));exact BK171.out) Tryz.underlying41 rfl (by kernel_rfl) (.tmp .nil)))) rfl ?_;exact⟨zz98,zz22⟩
             ·rw[if_neg c37]at H;exact absurd H (by simp)
            ·rw[if_neg c35]at H;have c35b0:((bt (a0_0.extract (a0_1:Int).toNat a0_0.size) (ji31))==10)=false:=beq_eq_false_iff_ne.mpr c35;have c35b1:((bt (a0_0.extract (a0_1:Int).toNat a0_0.size) (ji31))!=10)=true:=bne_iff_ne.mpr c35;simp only[Option.some.injEq,Prod.mk.injEq]at H;obtain⟨rfl,rfl,rfl,rfl⟩:=H;have p34:0≤((ji31):Int):=of_decide_eq_true zz12;have q34:(ji31)<((a0_0.extract (a0_1:Int).toNat a0_0.size).size:Int):=of_decide_eq_true zz12;have hx34:=bt_at (a0_0.extract (a0_1:Int).toNat a0_0.size) (ji31);replace p34:=eq_true p34;replace q34:=eq_true q34;have hnb41:=NB171_170.out;have hnc41:=NB170_171.out;obtain⟨_,_,_,_⟩:=cells2_ BK171.out;go_wp2
             refine bodyPost_ret (results_list (rs:= [.tmp 2,.cell 3 41,.tmp 4]) rfl (by simp) (.tmp (.cell gb171 41 #[.string (⟨#[]⟩:ByteArray),.int .i64 0] (0,0) _ rfl zz25 Tryz.underlying41 rfl (by kernel_rfl) (.tmp .nil)))) rfl ?_;exact⟨zz98,zz22⟩
           ·rw[if_neg c33]at H;exact absurd H (by simp)
          ·rw[if_neg c32]at H;exact absurd H (by simp)
         ·rw[if_neg c30]at H;have c30b0:((bt (a0_0.extract (a0_1:Int).toNat a0_0.size) t173)==13)=false:=beq_eq_false_iff_ne.mpr c30;have c30b1:((bt (a0_0.extract (a0_1:Int).toNat a0_0.size) t173)!=13)=true:=bne_iff_ne.mpr c30;(first|rw[c30b0]|(simp only[i64_w,i32_w];rw[c30b0])|rw[c30b1]|(rw[c30b2];simp only[Bool.not_true,Bool.not_false])|skip);simp only[Option.some.injEq,Prod.mk.injEq]at H;obtain⟨rfl,rfl,rfl,rfl⟩:=H;have hnb43:=NB171_170.out;have hnc43:=NB170_171.out;obtain⟨_,_,_,_⟩:=cells2_ BK171.out;go_wp2
          refine bodyPost_ret (results_list (rs:= [.tmp 2,.cell 3 41,.tmp 4]) rfl (by simp) (.tmp (.cell gb171 41 #[.string (⟨#[]⟩:ByteArray),.int .i64 0] (0,0) _ rfl zz25 Tryz.underlying41 rfl (by kernel_rfl) (.tmp .nil)))) rfl ?_;exact⟨zz3,zz22⟩
        ·rw[if_neg c27]at H;exact absurd H (by simp)
       ·rw[if_neg c26]at H;exact absurd H (by simp)
   ·rw[if_neg c11]at H;exact absurd H (by simp)
  ·rw[if_neg c10]at H;exact absurd H (by simp)
 ·replace c9:=Bool.eq_false_iff.mpr c9;subst c9;rw[if_neg Bool.false_ne_true]at H;simp only[Option.some.injEq,Prod.mk.injEq]at H;obtain⟨rfl,rfl,rfl,rfl⟩:=H;have hnb45:=NB171_170.out;have hnc45:=NB170_171.out;obtain⟨_,_,_,_⟩:=cells2_ BK171.out;go_wp2
  refine bodyPost_ret (results_list (rs:= [.tmp 2,.cell 3 41,.tmp 4]) rfl (by simp) (.tmp (.cell gb171 41 #[.string (⟨#[]⟩:ByteArray),.int .i64 0] (0,0) _ rfl zz25 Tryz.underlying41 rfl (by kernel_rfl) (.tmp .nil)))) rfl ?_;exact⟨zz3,zz22⟩
def strings_Cut.f (a0 a1:ByteArray):Option (ByteArray×ByteArray×Bool):=if a0.size<4294967281 then some (⟨(Lib.cut a0.data.toList a1.data.toList).1.toArray⟩,⟨(Lib.cut a0.data.toList a1.data.toList).2.1.toArray⟩,(Lib.cut a0.data.toList a1.data.toList).2.2)else none
theorem strings_Cut.calls (a0 a1 r1 r2:ByteArray) (r3:Bool) (w:World) (hG:Gl w) (h:strings_Cut.f a0 a1=some (r1,r2,r3)):
  Calls Tryz.prog 32 #[.string a0,.string a1] w fun e w'=>e= .returned (.tuple #[.string r1,.string r2,.bool r3])∧Below w.heap.size w w':=by
 unfold strings_Cut.f at h
 by_cases hs:a0.size<4294967281
 ·rw[if_pos hs]at h;obtain⟨rfl,rfl,rfl⟩:_∧_∧_:=by simpa only[Option.some.injEq,Prod.mk.injEq]using h
  obtain⟨m,hm⟩:=hG.maxLen;refine(Tryz.strings_Cut a0 a1 m w hs hm).mono ?_;rintro e w' ⟨he,n,hw⟩;subst hw;exact⟨he,pw_below_drewN (Below.refl _ _) n⟩
 ·rw[if_neg hs]at h;cases h
def impl_isDigit.f (a0:Int):Option (Bool):=if a0≥48 then(some (decide (a0≤57)))else(some false)
theorem impl_isDigit.calls (a0:Int) (r:Bool) (w:World) (h:impl_isDigit.f a0=some r):
  Calls Tryz.prog 104 #[.int .u8 a0] w fun e w'=>e= .returned (.bool r)∧Drawn0 w w':=by
 have H:(if a0≥48 then(some (decide (a0≤57)))else(some false))=some r:=h;clear h
 by_cases c2:a0≥48
 ·rw[if_pos c2]at H;have c2b0:decide (48≤a0)=true:=decide_eq_true c2;clear c2;obtain rfl:=Option.some.inj H;go_enter Tryz.func104,Tryz.ntmps104
  go_wp2
  go_ret;exact⟨zz4,zz8⟩
 ·rw[if_neg c2]at H;have c2b0:decide (48≤a0)=false:=decide_eq_false c2;clear c2;obtain rfl:=Option.some.inj H;go_enter Tryz.func104,Tryz.ntmps104
  go_wp2
  go_ret;exact⟨zz4,zz8⟩
def impl_hexOf.j0:Nat→Int→Bool→Option (Int)
 |0,_,_=>none
 |k+1,x0,x9=>if x9=true then(some (((x0-97)%256)+10))else(if x0≥65 then(if x0≤70 then(some (((x0-65)%256)+10))else(some (-1)))else(some (-1)))
def impl_hexOf.f (k:Nat) (a0:Int):Option (Int):=(impl_isDigit.f a0).bind fun t174=>(if t174=true then(some ((a0-48)%256))else(if a0≥97 then(impl_hexOf.j0 k a0 (decide (a0≤102)))else(impl_hexOf.j0 k a0 false)))
theorem impl_hexOf.calls (k:Nat) (a0 r:Int) (w:World) (h:impl_hexOf.f k a0=some r):
  Calls Tryz.prog 74 #[.int .u8 a0] w fun e w'=>e= .returned (.int .i64 r)∧Drawn0 w w':=by
 have H:((impl_isDigit.f a0).bind fun t174=>(if t174=true then(some ((a0-48)%256))else(if a0≥97 then(impl_hexOf.j0 k a0 (decide (a0≤102)))else(impl_hexOf.j0 k a0 false))))=some r:=h;clear h;replace H:=Option.bind_eq_some_iff.mp H;obtain⟨t174,A20,H⟩:=H;(try dsimp only at H);have A2:=Aside0.mk A20;clear A20;have HC3:=Aside0.mk H;clear H;go_enter Tryz.func74,Tryz.ntmps74
 go_upto_if 3 with(first|((with_reducible refine gate_callee (f:=104) rfl ?_);refine goesR_ 5 Tryz.func104 #[.int .u8 a0] (impl_isDigit.calls a0 t174 _ A2.out) ?_;rintro w' ⟨nd,rfl⟩))
 (try simp only[Act.put,List.setIfInBounds_toArray,List.set_cons_zero,List.set_cons_succ]);have H:=HC3.out;clear HC3
 by_cases c4:t174=true
 ·subst c4;rw[if_pos rfl]at H;obtain rfl:=Option.some.inj H;go_wp2
  go_ret;exact⟨zz4,zz8⟩
 ·replace c4:=Bool.eq_false_iff.mpr c4;subst c4;rw[if_neg Bool.false_ne_true]at H;have HC5:=Aside0.mk H;clear H;go_upto_region 3 with(fail)
  go_cut [9] (fun v9 wc=> ∃(kq:Nat) (x9_4:Bool),v9= .bool x9_4∧Aside0 (impl_hexOf.j0 kq a0 x9_4=some r)∧Aside0 (kq≤k)∧Drawn0 w wc)
  case first=>
   have H:=HC5.out;clear HC5
   by_cases c6:a0≥97
   ·rw[if_pos c6]at H;have c6b0:decide (97≤a0)=true:=decide_eq_true c6;clear c6;(first|rw[c6b0]|(simp only[i64_w,i32_w];rw[c6b0])|skip);have H':=Aside0.mk H;clear H;go_wp2
    go_meet
    case rel=>exact⟨_,(decide (a0≤102)),zz4,H',⟨zz42⟩,zz8⟩
   ·rw[if_neg c6]at H;have c6b0:decide (97≤a0)=false:=decide_eq_false c6;clear c6;(first|rw[c6b0]|(simp only[i64_w,i32_w];rw[c6b0])|skip);have H':=Aside0.mk H;clear H;go_wp2
    go_meet
    case rel=>exact⟨_,(false),zz4,H',⟨zz42⟩,zz8⟩
  case rest=>
   clear HC5;(try clear c1);(try clear p2);(try clear c4);(try clear c6);(try clear c6b0);obtain⟨kq,x9_4,rfl,HA,HJ4,⟨mc4,rfl⟩⟩:=hcut
   cases kq with
   |zero=>exact absurd HA.out (by simp[impl_hexOf.j0])
   |succ kj4=>
    have H:=HA.out;clear HA;simp only[impl_hexOf.j0]at H
    by_cases c7:x9_4=true
    ·subst c7;rw[if_pos rfl]at H;obtain rfl:=Option.some.inj H;go_wp2
     go_ret;exact⟨zz4,zz8⟩
    ·replace c7:=Bool.eq_false_iff.mpr c7;subst c7;rw[if_neg Bool.false_ne_true]at H
     by_cases c8:a0≥65
     ·rw[if_pos c8]at H;have c8b0:decide (65≤a0)=true:=decide_eq_true c8;clear c8
      by_cases c9:a0≤70
      ·rw[if_pos c9]at H;have c9b0:decide (a0≤70)=true:=decide_eq_true c9;clear c9;obtain rfl:=Option.some.inj H;go_wp2
       go_ret;exact⟨zz4,zz8⟩
      ·rw[if_neg c9]at H;have c9b0:decide (a0≤70)=false:=decide_eq_false c9;clear c9;obtain rfl:=Option.some.inj H;go_wp2
       go_ret;exact⟨zz4,zz8⟩
     ·rw[if_neg c8]at H;have c8b0:decide (65≤a0)=false:=decide_eq_false c8;clear c8;obtain rfl:=Option.some.inj H;go_wp2
      go_ret;exact⟨zz4,zz8⟩
def impl_ReadHex.l0:Nat→ByteArray→Int→Int→Option (Int×Bool)
 |0,_,_,_=>none
 |k+1,x0,x4,x5=>if x5<(x0.size:Int)then(if 0≤x5 then((impl_hexOf.f k (bt x0 x5)).bind fun t176=>(if t176<0 then(some (0,false))else(impl_ReadHex.l0 k x0 (wrap64 ((wrap64 (16*x4))+t176)) (wrap64 (x5+1)))))else(none))else(some (x4,true))
def impl_ReadHex.f (k:Nat) (a0:ByteArray):Option (Int×Bool):=(impl_within.f (a0.size:Int) 1 7).bind fun t175=>(if t175=true then(impl_ReadHex.l0 k a0 0 0)else(some (0,false)))
theorem impl_ReadHex.calls (k:Nat) (a0:ByteArray) (r1:Int) (r2:Bool) (w:World) (h:impl_ReadHex.f k a0=some (r1,r2)):
  Calls Tryz.prog 33 #[.string a0] w fun e w'=>e= .returned (.tuple #[.int .i64 r1,.bool r2])∧Drawn0 w w':=by
 have H:((impl_within.f (a0.size:Int) 1 7).bind fun t175=>(if t175=true then(impl_ReadHex.l0 k a0 0 0)else(some (0,false))))=some (r1,r2):=h;clear h;replace H:=Option.bind_eq_some_iff.mp H;obtain⟨t175,A20,H⟩:=H;(try dsimp only at H);have A2:=Aside0.mk A20;clear A20;have HC3:=Aside0.mk H;clear H;go_enter Tryz.func33,Tryz.ntmps33
 go_upto_if 10 with(first|((with_reducible refine gate_callee (f:=27) rfl ?_);refine goesR_ 9 Tryz.func27 #[.int .i64 (a0.size:Int),.int .i64 1,.int .i64 7] (impl_within.calls (a0.size:Int) 1 7 t175 _ A2.out) ?_;rintro w' ⟨nd,rfl⟩))
 (try simp only[Act.put,List.setIfInBounds_toArray,List.set_cons_zero,List.set_cons_succ]);have H:=HC3.out;clear HC3
 by_cases c4:t175=true
 ·subst c4;rw[if_pos rfl]at H;have H':=Aside0.mk H;clear H;go_wp2
  go_loopg [4,5] k (fun kq v4 v5 w'=> ∃(x4_1 x5_1:Int),v4= .int .i64 x4_1∧v5= .int .i64 x5_1∧Aside0 (impl_ReadHex.l0 kq a0 x4_1 x5_1=some (r1,r2))∧Aside0 (kq≤k)∧Drawn0 w w')
  case atStart=>exact⟨(0),(0),zz4,zz4,H',⟨Nat.le_refl _⟩,zz8⟩
  case round=>
   clear H';(try clear c2);(try clear p2);(try clear c3);(try clear c4);obtain⟨x4_1,x5_1,rfl,rfl,HA,HK1,⟨m1,rfl⟩⟩:=hrel
   cases gk with
   |zero=>exact absurd HA.out (by simp[impl_ReadHex.l0])
   |succ k1=>
    have H:=HA.out;clear HA;simp only[impl_ReadHex.l0]at H
    by_cases c5:x5_1<(a0.size:Int)
    ·rw[if_pos c5]at H;have c5b0:decide (x5_1<(a0.size:Int))=true:=decide_eq_true c5;clear c5;(first|rw[c5b0]|(simp only[i64_w,i32_w];rw[c5b0])|skip)
     by_cases c6:0≤x5_1
     ·rw[if_pos c6]at H;have c6b0:decide (0≤x5_1)=true:=decide_eq_true c6;clear c6;replace H:=Option.bind_eq_some_iff.mp H;obtain⟨t176,A80,H⟩:=H;(try dsimp only at H);have A8:=Aside0.mk A80;clear A80;have HC9:=Aside0.mk H;clear H;have p7:0≤(x5_1:Int):=of_decide_eq_true zz12;have q7:x5_1<(a0.size:Int):=of_decide_eq_true zz12;have hx7:=bt_at a0 x5_1;replace p7:=eq_true p7;replace q7:=eq_true q7;go_upto_if 22 with(first|((with_reducible refine gate_callee (f:=74) rfl ?_);refine goesR_ 20 Tryz.func74 #[.int .u8 (bt a0 x5_1)] (impl_hexOf.calls k1 (bt a0 x5_1) t176 _ A8.out) ?_;rintro w' ⟨nd,rfl⟩))
      (try simp only[Act.put,List.setIfInBounds_toArray,List.set_cons_zero,List.set_cons_succ]);have H:=HC9.out;clear HC9
      by_cases c10:t176<0
      ·rw[if_pos c10]at H;have c10b0:decide (t176<0)=true:=decide_eq_true c10;clear c10;(first|rw[c10b0]|(simp only[i64_w,i32_w];rw[c10b0])|skip);simp only[Option.some.injEq,Prod.mk.injEq]at H;obtain⟨rfl,rfl⟩:=H;go_wp2
       go_ret2
       exact⟨zz4,zz8⟩
      ·rw[if_neg c10]at H;have c10b0:decide (t176<0)=false:=decide_eq_false c10;clear c10;(first|rw[c10b0]|(simp only[i64_w,i32_w];rw[c10b0])|skip);have H':=Aside0.mk H;clear H;go_wp2
       go_roundg k1
       (case measure=>have:=HK1.out;omega);case rel=>exact⟨(wrap64 ((wrap64 (16*x4_1))+t176)),(wrap64 (x5_1+1)),zz4,zz4,H',⟨zz85⟩,zz8⟩
     ·rw[if_neg c6]at H;exact absurd H (by simp)
    ·rw[if_neg c5]at H;have c5b0:decide (x5_1<(a0.size:Int))=false:=decide_eq_false c5;clear c5;(first|rw[c5b0]|(simp only[i64_w,i32_w];rw[c5b0])|skip);simp only[Option.some.injEq,Prod.mk.injEq]at H;obtain⟨rfl,rfl⟩:=H;go_wp2
     go_ret2
     exact⟨zz4,zz8⟩
 ·replace c4:=Bool.eq_false_iff.mpr c4;subst c4;rw[if_neg Bool.false_ne_true]at H;simp only[Option.some.injEq,Prod.mk.injEq]at H;obtain⟨rfl,rfl⟩:=H;go_wp2
  go_ret2
  exact⟨zz4,zz8⟩
def impl_isSpace.f (a0:Int):Option (Bool):=if a0=32 then(some true)else(some (a0==9))
theorem impl_isSpace.calls (a0:Int) (r:Bool) (w:World) (h:impl_isSpace.f a0=some r):
  Calls Tryz.prog 101 #[.int .u8 a0] w fun e w'=>e= .returned (.bool r)∧Drawn0 w w':=by
 have H:(if a0=32 then(some true)else(some (a0==9)))=some r:=h;clear h
 by_cases c2:a0=32
 ·rw[if_pos c2]at H;have c2b0:(a0==32)=true:=beq_iff_eq.mpr c2;have c2b1:(a0 !=32)=false:=bne_eq_false_iff_eq.mpr c2;clear c2;obtain rfl:=Option.some.inj H;go_enter Tryz.func101,Tryz.ntmps101
  go_wp2
  go_ret;exact⟨zz4,zz8⟩
 ·rw[if_neg c2]at H;have c2b0:(a0==32)=false:=beq_eq_false_iff_ne.mpr c2;have c2b1:(a0 !=32)=true:=bne_iff_ne.mpr c2;obtain rfl:=Option.some.inj H;go_enter Tryz.func101,Tryz.ntmps101
  go_wp2
  go_ret;exact⟨zz4,zz8⟩
end Go.Proofs.YtnilblnhlpnpgaaGreatDoor.GFnChunks
