-- Printed by gen.py and its programs for this claim.
import Derived.Test.YtnilblnhlpnpgaaGreatDoorGFnExactGrammarx0
import Derived.Test.YtnilblnhlpnpgaaGreatDoorZFnExactGrammar
namespace Go.Proofs.YtnilblnhlpnpgaaGreatDoor.GFnExactGrammar
open Go.RowKit Go.Proofs.YtnilblnhlpnpgaaGreatDoorW.PrintWords Go.Proofs.YtnilblnhlpnpgaaGreatDoorW.PrintLast Go.Proofs.YtnilblnhlpnpgaaGreatDoorW.PrintMore Go.Proofs.YtnilblnhlpnpgaaGreatDoorW.Zs
set_option maxHeartbeats 40000000
set_option maxRecDepth 100000
attribute [local go_sem] max2_int min2_int max_two min_two max_three min_three max_four min_four
set_option linter.unusedVariables false
set_option linter.unusedSimpArgs false
def spec_CurOk.f (a0_0:ByteArray) (a0_1:Int):Option (Bool):=if a0_1≥0 then(some (decide (a0_1≤(a0_0.size:Int))))else(some false)
theorem spec_CurOk.calls (a0_0:ByteArray) (a0_1:Int) (r:Bool) (w:World) (h:spec_CurOk.f a0_0 a0_1=some r):
  Calls Tryz.prog 92 #[.agg #[.string a0_0,.int .i64 a0_1]] w fun e w'=>e= .returned (.bool r)∧Below w.heap.size w w':=by
 have hu41:=Tryz.underlying41;have HB:=Aside0.mk (Below.refl w.heap.size w);have H:(if a0_1≥0 then(some (decide (a0_1≤(a0_0.size:Int))))else(some false))=some r:=h;clear h;have HC2:=Aside0.mk H;clear H;go_enter Tryz.func92,Tryz.ntmps92
 repeat' (first|(go_big_may;(first|((with_reducible refine gate_dst (N:=1) rfl ?_);(try(refine gate_guard (by rfl) ?_;dsimp only));refine boxP_ (N:=1) (cs:= #[.string a0_0,.int .i64 a0_1]) (t:=41) ?_;intro gb101 hg w3 hbox hb;have BK101:=Aside0.mk (hbox);have GE101:=geb_ (w:=w) hg zz0;replace HB:=Aside0.mk (below_step zz0 hb);clear hb hbox hg;obtain⟨_,_,_,_⟩:=cells2_ BK101.out)))|go_values|go_skip|go_big_skip|go_big_want|((first|(with_reducible refine gate_nog rfl ?_)|(fail_if_success with_reducible refine gate_any ?_));go_step)|go_upon|simp only[Bool.not_true,Bool.not_false,Bool.true_and,Bool.false_and,Bool.true_or,Bool.false_or]|dsimp only)
 (try simp only[Act.put,List.setIfInBounds_toArray,List.set_cons_zero,List.set_cons_succ]);have H:=HC2.out;clear HC2
 by_cases c5:a0_1≥0
 ·rw[if_pos c5]at H;have c5b0:decide (0≤a0_1)=true:=decide_eq_true c5;clear c5;(first|rw[c5b0]|(simp only[i64_w,i32_w];rw[c5b0])|skip);obtain rfl:=Option.some.inj H;obtain⟨_,_,_,_⟩:=cells2_ BK101.out;go_wp2
  go_ret;exact⟨zz2,zz109⟩
 ·rw[if_neg c5]at H;have c5b0:decide (0≤a0_1)=false:=decide_eq_false c5;clear c5;(first|rw[c5b0]|(simp only[i64_w,i32_w];rw[c5b0])|skip);obtain rfl:=Option.some.inj H;go_wp2
  go_ret;exact⟨zz2,zz109⟩
def spec_TakeLine.l0:Nat→Int→ByteArray→Int→Option (ByteArray×ByteArray×Int×Int)
 |0,_,_,_=>none
 |k+1,x5,x103000,x103001=>if x5<(x103000.size:Int)then(if 0≤x5 then(if(bt x103000 x5)=10 then(some ((⟨#[]⟩:ByteArray),(⟨#[]⟩:ByteArray),0,2))else(if(bt x103000 x5)=13 then(if(wrap64 (x5+1))=(x103000.size:Int)then(some ((⟨#[]⟩:ByteArray),(⟨#[]⟩:ByteArray),0,1))else(if 0≤(wrap64 (x5+1))then(if(wrap64 (x5+1))<(x103000.size:Int)then(if(bt x103000 (wrap64 (x5+1)))=10 then(if 0≤x103001 then(if x103001≤x5 then(if x5≤(x103000.size:Int)then(some (x103000.extract (x103001:Int).toNat (x5:Int).toNat,x103000,wrap64 (x5+2),0))else(none))else(none))else(none))else(some ((⟨#[]⟩:ByteArray),(⟨#[]⟩:ByteArray),0,2)))else(none))else(none)))else(spec_TakeLine.l0 k (wrap64 (x5+1)) x103000 x103001)))else(none))else(some ((⟨#[]⟩:ByteArray),(⟨#[]⟩:ByteArray),0,1))
def spec_TakeLine.f (k:Nat) (a0_0:ByteArray) (a0_1:Int):Option (ByteArray×ByteArray×Int×Int):=(spec_CurOk.f a0_0 a0_1).bind fun t104=>(if t104=true then(spec_TakeLine.l0 k a0_1 a0_0 a0_1)else(some ((⟨#[]⟩:ByteArray),(⟨#[]⟩:ByteArray),0,2)))
def spec_TakeLine.T13:Bool×List (List Nat×List Nat):=(true,[([],[]),([0],[0]),([],[]),([2],[2]),([],[]),([1,3,4],[1,3,4]),([],[]),([6],[6]),([],[]),([8],[8]),([7,9],[7,9]),([5,0,1,2,3,4,5],[5]),([10,11,0,1,2,3,4,5,6,7,8,9,10,11],[10]),([12,0,1,2,3,4,5,6,7,8,9,10,11,12],[])])
def spec_TakeLine.B13:List Nat:= [0,1,0,4,0,31,0,64,0,256,960,63,4095,8191]
theorem spec_TakeLine.tab13:rtab .any (opsOf Tryz.f44 13)=spec_TakeLine.T13:=by kernel_rfl
theorem spec_TakeLine.bits13:waitsOk spec_TakeLine.T13.2 spec_TakeLine.B13=true:=by kernel_rfl
theorem spec_TakeLine.calls (k:Nat) (a0_0:ByteArray) (a0_1:Int) (r1 r2:ByteArray) (r3 r4:Int) (w:World) (h:spec_TakeLine.f k a0_0 a0_1=some (r1,r2,r3,r4)):
  Calls Tryz.prog 44 #[.agg #[.string a0_0,.int .i64 a0_1]] w fun e w'=>e= .returned (.tuple #[.string r1,.agg #[.string r2,.int .i64 r3],.int .i64 r4])∧Below w.heap.size w w':=by
 have hu41:=Tryz.underlying41;have HB:=Aside0.mk (Below.refl w.heap.size w);have H:((spec_CurOk.f a0_0 a0_1).bind fun t104=>(if t104=true then(spec_TakeLine.l0 k a0_1 a0_0 a0_1)else(some ((⟨#[]⟩:ByteArray),(⟨#[]⟩:ByteArray),0,2))))=some (r1,r2,r3,r4):=h;clear h;replace H:=Option.bind_eq_some_iff.mp H;obtain⟨t104,A20,H⟩:=H;(try dsimp only at H);have A2:=Aside0.mk A20;clear A20;have HC3:=Aside0.mk H;clear H;go_enter Tryz.func44,Tryz.ntmps44
 go_upto_if 8 with(first|((with_reducible refine gate_dst (N:=1) rfl ?_);refine boxP_ (N:=1) (cs:= #[.string a0_0,.int .i64 a0_1]) (t:=41) ?_;intro gb102 hg w4 hbox hb;have BK102:=Aside0.mk (hbox);have GE102:=geb_ (w:=w) hg zz0;replace HB:=Aside0.mk (below_step zz0 hb);clear hb hbox hg)|((with_reducible refine gate_dst (N:=3) rfl ?_);refine boxP_ (N:=3) (cs:= #[.string (⟨#[]⟩:ByteArray),.int .i64 0]) (t:=41) ?_;intro gb103 hg w5 hbox hb;have BK103:=Aside0.mk (hbox);have GE103:=geb_ (w:=w) hg zz108;replace HB:=Aside0.mk (below_step zz108 hb);have NB102_103:=nbL_ (g:=gb102) hg zz57;have NB103_102:=nbG_ (g:=gb102) hg zz57;replace BK102:=Aside0.mk (blk_below zz57 hb);clear hb hbox hg;have hnb6:=NB102_103.out;have hnc6:=NB103_102.out;obtain⟨_,_,_,_⟩:=cells2_ BK102.out)|((with_reducible refine gate_callee (f:=92) rfl ?_);refine goesR_ 7 Tryz.func92 #[.agg #[.string a0_0,.int .i64 a0_1]] (spec_CurOk.calls a0_0 a0_1 t104 _ A2.out) ?_;rintro w8 hb;replace BK102:=Aside0.mk (blk_below zz57 hb);replace BK103:=Aside0.mk (blk_below zz97 hb);replace HB:=Aside0.mk (below_step zz24 hb);(try clear hb)))
 (try simp only[Act.put,List.setIfInBounds_toArray,List.set_cons_zero,List.set_cons_succ]);have H:=HC3.out;clear HC3
 by_cases c9:t104=true
 ·subst c9;rw[if_pos rfl]at H;have H':=Aside0.mk H;clear H;have hnb10:=NB102_103.out;have hnc10:=NB103_102.out;obtain⟨_,_,_,_⟩:=cells2_ BK102.out;go_wp2
  go_loopg [5] k (fun kq v5 w'=> ∃(x5_1:Int) (x104000_1:ByteArray) (x104001_1:Int),v5= .int .i64 x5_1∧Aside0 (spec_TakeLine.l0 kq x5_1 a0_0 a0_1=some (r1,r2,r3,r4))∧Aside0 (kq≤k)∧Aside0 (w'.heap[gb102]?=some (.cells #[.string a0_0,.int .i64 a0_1] 41 (0,0)))∧Aside0 (w'.heap[gb103]?=some (.cells #[.string x104000_1,.int .i64 x104001_1] 41 (0,0)))∧Aside0 (Below w.heap.size w w'))
  case atStart=>exact⟨(a0_1),((⟨#[]⟩:ByteArray)),(0),zz3,H',⟨Nat.le_refl _⟩,⟨zz57⟩,⟨zz97⟩,⟨zz24⟩⟩
  case round=>
   clear H';(try clear c1);(try clear p2);(try clear c4);(try clear c6);(try clear c9);(try clear c10);(try clear hcz11_0);(try clear hcz11_1);(try clear hcz7_0);(try clear hcz7_1);(try clear hfz11_0);(try clear hfz11_1);(try clear hfz7_0);(try clear hfz7_1);obtain⟨x5_1,x104000_1,x104001_1,rfl,HA,HK1,BK102,BK103,HB⟩:=hrel
   cases gk with
   |zero=>exact absurd HA.out (by simp[spec_TakeLine.l0])
   |succ k1=>
    have H:=HA.out;clear HA;simp only[spec_TakeLine.l0]at H
    by_cases c12:x5_1<(a0_0.size:Int)
    ·rw[if_pos c12]at H;have c12b0:decide (x5_1<(a0_0.size:Int))=true:=decide_eq_true c12;clear c12;(first|rw[c12b0]|(simp only[i64_w,i32_w];rw[c12b0])|skip)
     by_cases c13:0≤x5_1
     ·rw[if_pos c13]at H;have c13b0:decide (0≤x5_1)=true:=decide_eq_true c13;clear c13
      by_cases c15:(bt a0_0 x5_1)=10
      ·rw[if_pos c15]at H;have c15b0:((bt a0_0 x5_1)==10)=true:=beq_iff_eq.mpr c15;have c15b1:((bt a0_0 x5_1)!=10)=false:=bne_eq_false_iff_eq.mpr c15;clear c15;simp only[Option.some.injEq,Prod.mk.injEq]at H;obtain⟨rfl,rfl,rfl,rfl⟩:=H;have hnb16:=NB102_103.out;have hnc16:=NB103_102.out;obtain⟨_,_,_,_⟩:=cells2_ BK102.out;have p14:0≤(x5_1:Int):=of_decide_eq_true zz7;have q14:x5_1<(a0_0.size:Int):=of_decide_eq_true zz7;have hx14:=bt_at a0_0 x5_1;replace p14:=eq_true p14;replace q14:=eq_true q14;obtain⟨_,_,_,_⟩:=cells2_ BK103.out;go_wp2
       refine bodyPost_ret (results_list (rs:= [.tmp 2,.cell 3 41,.tmp 4]) rfl (by simp) (.tmp (.cell gb103 41 #[.string (⟨#[]⟩:ByteArray),.int .i64 0] (0,0) _ rfl zz31 Tryz.underlying41 rfl (by kernel_rfl) (.tmp .nil)))) rfl ?_;exact⟨zz2,zz24⟩
      ·rw[if_neg c15]at H;have c15b0:((bt a0_0 x5_1)==10)=false:=beq_eq_false_iff_ne.mpr c15;have c15b1:((bt a0_0 x5_1)!=10)=true:=bne_iff_ne.mpr c15
       by_cases c20:(bt a0_0 x5_1)=13
       ·rw[if_pos c20]at H;have c20b0:((bt a0_0 x5_1)==13)=true:=beq_iff_eq.mpr c20;have c20b1:((bt a0_0 x5_1)!=13)=false:=bne_eq_false_iff_eq.mpr c20;clear c20
        by_cases c21:(wrap64 (x5_1+1))=(a0_0.size:Int)
        ·rw[if_pos c21]at H;have c21b0:((wrap64 (x5_1+1))==(a0_0.size:Int))=true:=beq_iff_eq.mpr c21;have c21b1:((wrap64 (x5_1+1))!=(a0_0.size:Int))=false:=bne_eq_false_iff_eq.mpr c21;clear c21;simp only[Option.some.injEq,Prod.mk.injEq]at H;obtain⟨rfl,rfl,rfl,rfl⟩:=H;have hnb22:=NB102_103.out;have hnc22:=NB103_102.out;obtain⟨_,_,_,_⟩:=cells2_ BK102.out;have p14:0≤(x5_1:Int):=of_decide_eq_true zz7;have q14:x5_1<(a0_0.size:Int):=of_decide_eq_true zz7;have hx14:=bt_at a0_0 x5_1;replace p14:=eq_true p14;replace q14:=eq_true q14;have p19:0≤(x5_1:Int):=of_decide_eq_true zz7;have q19:x5_1<(a0_0.size:Int):=of_decide_eq_true zz7;have hx19:=bt_at a0_0 x5_1;replace p19:=eq_true p19;replace q19:=eq_true q19;obtain⟨_,_,_,_⟩:=cells2_ BK103.out;go_wp2
         refine bodyPost_ret (results_list (rs:= [.tmp 2,.cell 3 41,.tmp 4]) rfl (by simp) (.tmp (.cell gb103 41 #[.string (⟨#[]⟩:ByteArray),.int .i64 0] (0,0) _ rfl zz31 Tryz.underlying41 rfl (by kernel_rfl) (.tmp .nil)))) rfl ?_;exact⟨zz2,zz24⟩
        ·rw[if_neg c21]at H;have c21b0:((wrap64 (x5_1+1))==(a0_0.size:Int))=false:=beq_eq_false_iff_ne.mpr c21;have c21b1:((wrap64 (x5_1+1))!=(a0_0.size:Int))=true:=bne_iff_ne.mpr c21;obtain⟨ji25,hji25⟩: ∃j_:Int,(wrap64 (x5_1+1))=j_:=⟨_,rfl⟩;replace H:(if 0≤(ji25)then(if(ji25)<(a0_0.size:Int)then(if(bt a0_0 (ji25))=10 then(if 0≤a0_1 then(if a0_1≤x5_1 then(if x5_1≤(a0_0.size:Int)then(some (a0_0.extract (a0_1:Int).toNat (x5_1:Int).toNat,a0_0,wrap64 (x5_1+2),0))else(none))else(none))else(none))else(some ((⟨#[]⟩:ByteArray),(⟨#[]⟩:ByteArray),0,2)))else(none))else(none))=some (r1,r2,r3,r4):=by first|(rw[hji25]at H;exact H)|(simp only[hji25]at H ⊢;exact H)
         (try rw[hji25]at c21b0);(try rw[hji25]at c21b1);have hji25w:(IntKind.i64.wrap (x5_1+1))=ji25:=(i64_w _).trans hji25
         by_cases c26:0≤(ji25)
         ·rw[if_pos c26]at H;have c26b0:decide (0≤(ji25))=true:=decide_eq_true c26;clear c26
          by_cases c27:(ji25)<(a0_0.size:Int)
          ·rw[if_pos c27]at H;have c27b0:decide ((ji25)<(a0_0.size:Int))=true:=decide_eq_true c27;clear c27
           by_cases c29:(bt a0_0 (ji25))=10
           ·rw[if_pos c29]at H;have c29b0:((bt a0_0 (ji25))==10)=true:=beq_iff_eq.mpr c29;have c29b1:((bt a0_0 (ji25))!=10)=false:=bne_eq_false_iff_eq.mpr c29;clear c29
            by_cases c30:0≤a0_1
            ·rw[if_pos c30]at H;have c30b0:=eq_true c30;have c30b1:decide (0≤a0_1)=true:=decide_eq_true c30;clear c30
             by_cases c31:a0_1≤x5_1
             ·rw[if_pos c31]at H;have c31b0:=eq_true c31;have c31b1:decide (a0_1≤x5_1)=true:=decide_eq_true c31;clear c31
              by_cases c32:x5_1≤(a0_0.size:Int)
              ·rw[if_pos c32]at H;have c32b0:=eq_true c32;have c32b1:decide (x5_1≤(a0_0.size:Int))=true:=decide_eq_true c32;clear c32;simp only[Option.some.injEq,Prod.mk.injEq]at H;obtain⟨rfl,rfl,rfl,rfl⟩:=H;have hnb33:=NB102_103.out;have hnc33:=NB103_102.out;obtain⟨_,_,_,_⟩:=cells2_ BK102.out;have p14:0≤(x5_1:Int):=of_decide_eq_true zz7;have q14:x5_1<(a0_0.size:Int):=of_decide_eq_true zz7;have hx14:=bt_at a0_0 x5_1;replace p14:=eq_true p14;replace q14:=eq_true q14;have p19:0≤(x5_1:Int):=of_decide_eq_true zz7;have q19:x5_1<(a0_0.size:Int):=of_decide_eq_true zz7;have hx19:=bt_at a0_0 x5_1;replace p19:=eq_true p19;replace q19:=eq_true q19;have p28:0≤((ji25):Int):=of_decide_eq_true zz7;have q28:(ji25)<(a0_0.size:Int):=of_decide_eq_true zz7;have hx28:=bt_at a0_0 (ji25);replace p28:=eq_true p28;replace q28:=eq_true q28;(try go_wp2);replace BK102:=Aside0.mk (blk_drew BK102.out);replace BK103:=Aside0.mk (blk_drew BK103.out);replace HB:=Aside0.mk (below_drew1 HB.out);refine st_ (n:=14) (S:=fun w'=>w'.cell? ⟨gb102,0,none⟩=some (.string a0_0)∧w'.cell? ⟨gb102,1,none⟩=some (.int .i64 a0_1)) (ds:= []) (hold2_ BK102.out) (fun hHeld=>?_);refine with_tabW spec_TakeLine.tab13 spec_TakeLine.bits13 (fun HT_ HW_=>?_);generalize wr.drew=w35 at BK102 BK103 HB hHeld ⊢;refine pz 0 44 ?_;refine pz 2 46 ?_;refine pz 4 48 ?_;refine pz 6 50 ?_;refine pz 8 52 ?_;refine pz 9 53 ?_;refine tk0_ 1 45 hHeld ?_;refine tk0_ 3 47 hHeld ?_;refine pz 5 49 ?_;refine pz 11 2 ?_;refine tk0_ 7 51 hHeld ?_;refine pz 10 54 ?_;refine one_ (i:=12) (N:=none) #[true,true,true,true,true,true,true,true,true,true,true,true,true,false] rfl rfl (one_of HT_.out (by kernel_rfl)) (by decide) (fun K hK=>?_);have hs36:w35.cell? ⟨gb103,0,none⟩=some (.string x104000_1):=(blk_cell BK103.out 0).trans rfl;have hfs36:=blk_frozen BK103.out 0;have hns36_0:=NB102_103.out;have hms36_0:=NB103_102.out;have hs37:w35.cell? ⟨gb103,1,none⟩=some (.int .i64 x104001_1):=(blk_cell BK103.out 1).trans rfl;have hfs37:=blk_frozen BK103.out 1;have hns37_0:=NB102_103.out;have hms37_0:=NB103_102.out;refine skip_ (w1:=?_) (by rfl) rfl ?_ ?_;rotate_left
               ·go_simp;rfl
               refine hK.out _ _ ⟨((cell_far (p:=⟨gb103,_,none⟩) NB102_103.out _).trans (((cell_far (p:=⟨gb103,_,none⟩) NB102_103.out _).trans (hHeld.1)))),((cell_far (p:=⟨gb103,_,none⟩) NB102_103.out _).trans (((cell_far (p:=⟨gb103,_,none⟩) NB102_103.out _).trans (hHeld.2))))⟩ (fun hHeld=>?_);clear hK K;refine pz 13 4 ?_;refine done_ (done_of HT_.out (by kernel_rfl)) ?_;(try go_wp2);refine bodyPost_ret (results_list (rs:= [.tmp 2,.cell 3 41,.tmp 4]) rfl (by simp) (.tmp (.cell gb103 41 #[.string a0_0,.int .i64 (wrap64 (x5_1+2))] (0,0) _ rfl (by(with_reducible repeat(first|refine blk_drewN ?_ _|refine blk_drew ?_|refine blk_alloc ?_ _));refine blk_put (cs:= #[.string a0_0,.int .i64 x104001_1]) ?_ 1 _ rfl;(with_reducible repeat(first|refine blk_drewN ?_ _|refine blk_drew ?_|refine blk_alloc ?_ _));refine blk_put (cs:= #[.string x104000_1,.int .i64 x104001_1]) ?_ 0 _ rfl;(with_reducible repeat(first|refine blk_drewN ?_ _|refine blk_drew ?_|refine blk_alloc ?_ _));exact BK103.out) Tryz.underlying41 rfl (by kernel_rfl) (.tmp .nil)))) rfl ?_;exact⟨zz102,zz24⟩
              ·rw[if_neg c32]at H;exact absurd H (by simp)
             ·rw[if_neg c31]at H;exact absurd H (by simp)
            ·rw[if_neg c30]at H;exact absurd H (by simp)
           ·rw[if_neg c29]at H;have c29b0:((bt a0_0 (ji25))==10)=false:=beq_eq_false_iff_ne.mpr c29;have c29b1:((bt a0_0 (ji25))!=10)=true:=bne_iff_ne.mpr c29;simp only[Option.some.injEq,Prod.mk.injEq]at H;obtain⟨rfl,rfl,rfl,rfl⟩:=H;have hnb38:=NB102_103.out;have hnc38:=NB103_102.out;obtain⟨_,_,_,_⟩:=cells2_ BK102.out;have p14:0≤(x5_1:Int):=of_decide_eq_true zz7;have q14:x5_1<(a0_0.size:Int):=of_decide_eq_true zz7;have hx14:=bt_at a0_0 x5_1;replace p14:=eq_true p14;replace q14:=eq_true q14;have p19:0≤(x5_1:Int):=of_decide_eq_true zz7;have q19:x5_1<(a0_0.size:Int):=of_decide_eq_true zz7;have hx19:=bt_at a0_0 x5_1;replace p19:=eq_true p19;replace q19:=eq_true q19;have p28:0≤((ji25):Int):=of_decide_eq_true zz7;have q28:(ji25)<(a0_0.size:Int):=of_decide_eq_true zz7;have hx28:=bt_at a0_0 (ji25);replace p28:=eq_true p28;replace q28:=eq_true q28;obtain⟨_,_,_,_⟩:=cells2_ BK103.out;go_wp2
            refine bodyPost_ret (results_list (rs:= [.tmp 2,.cell 3 41,.tmp 4]) rfl (by simp) (.tmp (.cell gb103 41 #[.string (⟨#[]⟩:ByteArray),.int .i64 0] (0,0) _ rfl zz31 Tryz.underlying41 rfl (by kernel_rfl) (.tmp .nil)))) rfl ?_;exact⟨zz102,zz24⟩
          ·rw[if_neg c27]at H;exact absurd H (by simp)
         ·rw[if_neg c26]at H;exact absurd H (by simp)
       ·rw[if_neg c20]at H;have c20b0:((bt a0_0 x5_1)==13)=false:=beq_eq_false_iff_ne.mpr c20;have c20b1:((bt a0_0 x5_1)!=13)=true:=bne_iff_ne.mpr c20;have H':=Aside0.mk H;clear H;have hnb41:=NB102_103.out;have hnc41:=NB103_102.out;obtain⟨_,_,_,_⟩:=cells2_ BK102.out;have p14:0≤(x5_1:Int):=of_decide_eq_true zz7;have q14:x5_1<(a0_0.size:Int):=of_decide_eq_true zz7;have hx14:=bt_at a0_0 x5_1;replace p14:=eq_true p14;replace q14:=eq_true q14;have p19:0≤(x5_1:Int):=of_decide_eq_true zz7;have q19:x5_1<(a0_0.size:Int):=of_decide_eq_true zz7;have hx19:=bt_at a0_0 x5_1;replace p19:=eq_true p19;replace q19:=eq_true q19;go_wp2
        go_roundg k1
        (case measure=>have:=HK1.out;omega);case rel=>exact⟨(wrap64 (x5_1+1)),(x104000_1),(x104001_1),zz3,H',⟨zz72⟩,⟨zz57⟩,⟨zz97⟩,⟨zz24⟩⟩
     ·rw[if_neg c13]at H;exact absurd H (by simp)
    ·rw[if_neg c12]at H;have c12b0:decide (x5_1<(a0_0.size:Int))=false:=decide_eq_false c12;clear c12;(first|rw[c12b0]|(simp only[i64_w,i32_w];rw[c12b0])|skip);simp only[Option.some.injEq,Prod.mk.injEq]at H;obtain⟨rfl,rfl,rfl,rfl⟩:=H;have hnb43:=NB102_103.out;have hnc43:=NB103_102.out;obtain⟨_,_,_,_⟩:=cells2_ BK102.out;obtain⟨_,_,_,_⟩:=cells2_ BK103.out;go_wp2
     refine bodyPost_ret (results_list (rs:= [.tmp 2,.cell 3 41,.tmp 4]) rfl (by simp) (.tmp (.cell gb103 41 #[.string (⟨#[]⟩:ByteArray),.int .i64 0] (0,0) _ rfl zz31 Tryz.underlying41 rfl (by kernel_rfl) (.tmp .nil)))) rfl ?_;exact⟨zz2,zz24⟩
 ·replace c9:=Bool.eq_false_iff.mpr c9;subst c9;rw[if_neg Bool.false_ne_true]at H;simp only[Option.some.injEq,Prod.mk.injEq]at H;obtain⟨rfl,rfl,rfl,rfl⟩:=H;have hnb46:=NB103_102.out;have hnc46:=NB102_103.out;obtain⟨_,_,_,_⟩:=cells2_ BK103.out;go_wp2
  refine bodyPost_ret (results_list (rs:= [.tmp 2,.cell 3 41,.tmp 4]) rfl (by simp) (.tmp (.cell gb103 41 #[.string (⟨#[]⟩:ByteArray),.int .i64 0] (0,0) _ rfl (by(with_reducible repeat(first|refine blk_drewN ?_ _|refine blk_drew ?_|refine blk_alloc ?_ _));refine blk_put (cs:= #[.string (⟨#[]⟩:ByteArray),.int .i64 0]) ?_ 1 _ rfl;(with_reducible repeat(first|refine blk_drewN ?_ _|refine blk_drew ?_|refine blk_alloc ?_ _));refine blk_put (cs:= #[.string (⟨#[]⟩:ByteArray),.int .i64 0]) ?_ 0 _ rfl;(with_reducible repeat(first|refine blk_drewN ?_ _|refine blk_drew ?_|refine blk_alloc ?_ _));exact BK103.out) Tryz.underlying41 rfl (by kernel_rfl) (.tmp .nil)))) rfl ?_;exact⟨zz2,zz24⟩
def spec_l6upto.l0:Nat→ByteArray→Int→Int→Option (ByteArray)
 |0,_,_,_=>none
 |k+1,x0,x1,x5=>if x5<(x0.size:Int)then(if 0≤x5 then(if(bt x0 x5)=x1 then(if x5≤(x0.size:Int)then(some (x0.extract 0 (x5:Int).toNat))else(none))else(spec_l6upto.l0 k x0 x1 (wrap64 (x5+1))))else(none))else(some x0)
def spec_l6upto.f (k:Nat) (a0:ByteArray) (a1:Int):Option (ByteArray):=spec_l6upto.l0 k a0 a1 0
theorem spec_l6upto.calls (k:Nat) (a0:ByteArray) (a1:Int) (r:ByteArray) (w:World) (h:spec_l6upto.f k a0 a1=some r):
  Calls Tryz.prog 45 #[.string a0,.int .u8 a1] w fun e w'=>e= .returned (.string r)∧Drawn0 w w':=by
 have H:(spec_l6upto.l0 k a0 a1 0)=some r:=h;clear h;have H':=Aside0.mk H;clear H;go_enter Tryz.func45,Tryz.ntmps45
 go_wp2
 go_loopg [5] k (fun kq v5 w'=> ∃(x5_1:Int),v5= .int .i64 x5_1∧Aside0 (spec_l6upto.l0 kq a0 a1 x5_1=some r)∧Aside0 (kq≤k)∧Drawn0 w w')
 case atStart=>exact⟨(0),zz3,H',⟨Nat.le_refl _⟩,zz5⟩
 case round=>
  clear H';(try clear p2);obtain⟨x5_1,rfl,HA,HK1,⟨m1,rfl⟩⟩:=hrel
  cases gk with
  |zero=>exact absurd HA.out (by simp[spec_l6upto.l0])
  |succ k1=>
   have H:=HA.out;clear HA;simp only[spec_l6upto.l0]at H
   by_cases c3:x5_1<(a0.size:Int)
   ·rw[if_pos c3]at H;have c3b0:decide (x5_1<(a0.size:Int))=true:=decide_eq_true c3;clear c3
    by_cases c4:0≤x5_1
    ·rw[if_pos c4]at H;have c4b0:decide (0≤x5_1)=true:=decide_eq_true c4;clear c4
     by_cases c6:(bt a0 x5_1)=a1
     ·rw[if_pos c6]at H;have c6b0:((bt a0 x5_1)==a1)=true:=beq_iff_eq.mpr c6;have c6b1:((bt a0 x5_1)!=a1)=false:=bne_eq_false_iff_eq.mpr c6;clear c6;have c7b0:=eq_true (of_decide_eq_true zz7:0≤x5_1)
      by_cases c8:x5_1≤(a0.size:Int)
      ·rw[if_pos c8]at H;have c8b0:=eq_true c8;have c8b1:decide (x5_1≤(a0.size:Int))=true:=decide_eq_true c8;clear c8;obtain rfl:=Option.some.inj H;have p5:0≤(x5_1:Int):=of_decide_eq_true zz7;have q5:x5_1<(a0.size:Int):=of_decide_eq_true zz7;have hx5:=bt_at a0 x5_1;replace p5:=eq_true p5;replace q5:=eq_true q5;go_wp2
       go_ret;exact⟨zz3,zz5⟩
      ·rw[if_neg c8]at H;exact absurd H (by simp)
     ·rw[if_neg c6]at H;have c6b0:((bt a0 x5_1)==a1)=false:=beq_eq_false_iff_ne.mpr c6;have c6b1:((bt a0 x5_1)!=a1)=true:=bne_iff_ne.mpr c6;have H':=Aside0.mk H;clear H;have p5:0≤(x5_1:Int):=of_decide_eq_true zz7;have q5:x5_1<(a0.size:Int):=of_decide_eq_true zz7;have hx5:=bt_at a0 x5_1;replace p5:=eq_true p5;replace q5:=eq_true q5;go_wp2
      go_roundg k1
      (case measure=>have:=HK1.out;omega);case rel=>exact⟨(wrap64 (x5_1+1)),zz3,H',⟨zz72⟩,zz5⟩
    ·rw[if_neg c4]at H;exact absurd H (by simp)
   ·rw[if_neg c3]at H;have c3b0:decide (x5_1<(a0.size:Int))=false:=decide_eq_false c3;clear c3;obtain rfl:=Option.some.inj H;go_wp2
    go_ret;exact⟨zz3,zz5⟩
def spec_l1lower.f (a0:Int):Option (Int):=if a0≥65 then(if a0≤90 then(some ((a0+32)%256))else(some a0))else(some a0)
theorem spec_l1lower.calls (a0 r:Int) (w:World) (h:spec_l1lower.f a0=some r):
  Calls Tryz.prog 96 #[.int .u8 a0] w fun e w'=>e= .returned (.int .u8 r)∧Drawn0 w w':=by
 have H:(if a0≥65 then(if a0≤90 then(some ((a0+32)%256))else(some a0))else(some a0))=some r:=h;clear h
 by_cases c2:a0≥65
 ·rw[if_pos c2]at H;have c2b0:decide (65≤a0)=true:=decide_eq_true c2;clear c2
  by_cases c3:a0≤90
  ·rw[if_pos c3]at H;have c3b0:decide (a0≤90)=true:=decide_eq_true c3;clear c3;obtain rfl:=Option.some.inj H;go_enter Tryz.func96,Tryz.ntmps96
   go_wp2
   go_ret;exact⟨zz3,zz5⟩
  ·rw[if_neg c3]at H;have c3b0:decide (a0≤90)=false:=decide_eq_false c3;clear c3;obtain rfl:=Option.some.inj H;go_enter Tryz.func96,Tryz.ntmps96
   go_wp2
   go_ret;exact⟨zz3,zz5⟩
 ·rw[if_neg c2]at H;have c2b0:decide (65≤a0)=false:=decide_eq_false c2;clear c2;obtain rfl:=Option.some.inj H;go_enter Tryz.func96,Tryz.ntmps96
  go_wp2
  go_ret;exact⟨zz3,zz5⟩
def spec_l1digit.f (a0:Int):Option (Bool):=if a0≥48 then(some (decide (a0≤57)))else(some false)
theorem spec_l1digit.calls (a0:Int) (r:Bool) (w:World) (h:spec_l1digit.f a0=some r):
  Calls Tryz.prog 100 #[.int .u8 a0] w fun e w'=>e= .returned (.bool r)∧Drawn0 w w':=by
 have H:(if a0≥48 then(some (decide (a0≤57)))else(some false))=some r:=h;clear h
 by_cases c2:a0≥48
 ·rw[if_pos c2]at H;have c2b0:decide (48≤a0)=true:=decide_eq_true c2;clear c2;obtain rfl:=Option.some.inj H;go_enter Tryz.func100,Tryz.ntmps100
  go_wp2
  go_ret;exact⟨zz3,zz5⟩
 ·rw[if_neg c2]at H;have c2b0:decide (48≤a0)=false:=decide_eq_false c2;clear c2;obtain rfl:=Option.some.inj H;go_enter Tryz.func100,Tryz.ntmps100
  go_wp2
  go_ret;exact⟨zz3,zz5⟩
def spec_l1has.l0:Nat→ByteArray→Int→Int→Option (Bool)
 |0,_,_,_=>none
 |k+1,x0,x1,x5=>if x5<(x0.size:Int)then(if 0≤x5 then(if(bt x0 x5)=x1 then(some true)else(spec_l1has.l0 k x0 x1 (wrap64 (x5+1))))else(none))else(some false)
def spec_l1has.f (k:Nat) (a0:ByteArray) (a1:Int):Option (Bool):=spec_l1has.l0 k a0 a1 0
theorem spec_l1has.calls (k:Nat) (a0:ByteArray) (a1:Int) (r:Bool) (w:World) (h:spec_l1has.f k a0 a1=some r):
  Calls Tryz.prog 126 #[.string a0,.int .u8 a1] w fun e w'=>e= .returned (.bool r)∧Drawn0 w w':=by
 have H:(spec_l1has.l0 k a0 a1 0)=some r:=h;clear h;have H':=Aside0.mk H;clear H;go_enter Tryz.func126,Tryz.ntmps126
 go_wp2
 go_loopg [5] k (fun kq v5 w'=> ∃(x5_1:Int),v5= .int .i64 x5_1∧Aside0 (spec_l1has.l0 kq a0 a1 x5_1=some r)∧Aside0 (kq≤k)∧Drawn0 w w')
 case atStart=>exact⟨(0),zz3,H',⟨Nat.le_refl _⟩,zz5⟩
 case round=>
  clear H';(try clear c1);(try clear p2);obtain⟨x5_1,rfl,HA,HK1,⟨m1,rfl⟩⟩:=hrel
  cases gk with
  |zero=>exact absurd HA.out (by simp[spec_l1has.l0])
  |succ k1=>
   have H:=HA.out;clear HA;simp only[spec_l1has.l0]at H
   by_cases c3:x5_1<(a0.size:Int)
   ·rw[if_pos c3]at H;have c3b0:decide (x5_1<(a0.size:Int))=true:=decide_eq_true c3;clear c3
    by_cases c4:0≤x5_1
    ·rw[if_pos c4]at H;have c4b0:decide (0≤x5_1)=true:=decide_eq_true c4;clear c4
     by_cases c6:(bt a0 x5_1)=a1
     ·rw[if_pos c6]at H;have c6b0:((bt a0 x5_1)==a1)=true:=beq_iff_eq.mpr c6;have c6b1:((bt a0 x5_1)!=a1)=false:=bne_eq_false_iff_eq.mpr c6;clear c6;obtain rfl:=Option.some.inj H;have p5:0≤(x5_1:Int):=of_decide_eq_true zz7;have q5:x5_1<(a0.size:Int):=of_decide_eq_true zz7;have hx5:=bt_at a0 x5_1;replace p5:=eq_true p5;replace q5:=eq_true q5;go_wp2
      go_ret;exact⟨zz3,zz5⟩
     ·rw[if_neg c6]at H;have c6b0:((bt a0 x5_1)==a1)=false:=beq_eq_false_iff_ne.mpr c6;have c6b1:((bt a0 x5_1)!=a1)=true:=bne_iff_ne.mpr c6;have H':=Aside0.mk H;clear H;have p5:0≤(x5_1:Int):=of_decide_eq_true zz7;have q5:x5_1<(a0.size:Int):=of_decide_eq_true zz7;have hx5:=bt_at a0 x5_1;replace p5:=eq_true p5;replace q5:=eq_true q5;go_wp2
      go_roundg k1
      (case measure=>have:=HK1.out;omega);case rel=>exact⟨(wrap64 (x5_1+1)),zz3,H',⟨zz72⟩,zz5⟩
    ·rw[if_neg c4]at H;exact absurd H (by simp)
   ·rw[if_neg c3]at H;have c3b0:decide (x5_1<(a0.size:Int))=false:=decide_eq_false c3;clear c3;obtain rfl:=Option.some.inj H;go_wp2
    go_ret;exact⟨zz3,zz5⟩
end Go.Proofs.YtnilblnhlpnpgaaGreatDoor.GFnExactGrammar
