-- Printed by gen.py and its programs for this claim.
import Derived.Test.YtnilblnhlpnpgaaGreatDoorGFnExactGrammarx0
import Derived.Test.YtnilblnhlpnpgaaGreatDoorGFnExactGrammarx10
import Derived.Test.YtnilblnhlpnpgaaGreatDoorGFnExactGrammarx18
import Derived.Test.YtnilblnhlpnpgaaGreatDoorZFnExactGrammar
namespace Go.Proofs.YtnilblnhlpnpgaaGreatDoor.GFnExactGrammar
open Go.RowKit Go.Proofs.YtnilblnhlpnpgaaGreatDoorW.PrintWords Go.Proofs.YtnilblnhlpnpgaaGreatDoorW.PrintLast Go.Proofs.YtnilblnhlpnpgaaGreatDoorW.PrintMore Go.Proofs.YtnilblnhlpnpgaaGreatDoorW.Zs
set_option maxHeartbeats 40000000
set_option maxRecDepth 100000
attribute [local go_sem] max2_int min2_int max_two min_two max_three min_three max_four min_four
set_option linter.unusedVariables false
set_option linter.unusedSimpArgs false
def impl_Grammar.l0:Nat→ByteArray→Int→ByteArray→Int→Option (Int)
 |0,_,_,_,_=>none
 |k+1,x0,x3,x298000,x298001=>if x298001<(x0.size:Int)then((impl_grammar.f k x298000 x298001).bind fun bt298=>(if bt298.2.2=true then(impl_Grammar.l0 k x0 (wrap64 (x3+1)) bt298.1 bt298.2.1)else(some (-1))))else(some x3)
def impl_Grammar.f (k:Nat) (a0:ByteArray):Option (Int):=if(a0.size:Int)>60000 then(some (-1))else(impl_Grammar.l0 k a0 0 a0 0)
theorem impl_Grammar.calls (k:Nat) (a0:ByteArray) (r:Int) (w:World) (hG:Gl w) (h:impl_Grammar.f k a0=some r):
  Calls Tryz.prog 8 #[.string a0] w fun e w'=>e= .returned (.int .i64 r)∧Below w.heap.size w w':=by
 have hu41:=Tryz.underlying41;have HG:=Aside0.mk hG;clear hG;have HB:=Aside0.mk (Below.refl w.heap.size w);have H:(if(a0.size:Int)>60000 then(some (-1))else(impl_Grammar.l0 k a0 0 a0 0))=some r:=h;clear h
 by_cases c2:(a0.size:Int)>60000
 ·rw[if_pos c2]at H;have c2b0:decide (60000<(a0.size:Int))=true:=decide_eq_true c2;have c2b1:decide (60000<a0.size)=true:=decide_eq_true (by omega);clear c2;obtain rfl:=Option.some.inj H;go_enter Tryz.func8,Tryz.ntmps8
  go_wp2
  go_ret;exact⟨zz2,zz0⟩
 ·rw[if_neg c2]at H;have c2b0:decide (60000<(a0.size:Int))=false:=decide_eq_false c2;have c2b1:decide (60000<a0.size)=false:=decide_eq_false (by omega);clear c2;have H':=Aside0.mk H;clear H;go_enter Tryz.func8,Tryz.ntmps8
  go_wp2_with (first|((with_reducible refine gate_dst (N:=4) rfl ?_);refine boxP_ (N:=4) (cs:= #[.string (⟨#[]⟩:ByteArray),.int .i64 0]) (t:=41) ?_;intro gb297 hg w3 hbox hb;have BK297:=Aside0.mk (hbox);have GE297:=geb_ (w:=w) hg zz0;replace HB:=Aside0.mk (below_step zz0 hb);clear hb hbox hg;obtain⟨_,_,_,_⟩:=cells2_ BK297.out))
  go_loopg [3,4] k (fun kq v3 v4 w'=> ∃(x3_1:Int) (xa:ByteArray) (xb:Int) (gc:Nat),v3= .int .i64 x3_1∧v4= .pointer (some ⟨gc,0,none⟩)∧Aside0 (impl_Grammar.l0 kq a0 x3_1 xa xb=some r)∧Aside0 (kq≤k)∧Aside0 (w'.heap[gc]?=some (.cells #[.string xa,.int .i64 xb] 41 (0,0)))∧Aside0 (w.heap.size≤gc)∧Aside0 (Below w.heap.size w w'))
  case atStart=>exact⟨(0),a0,0,gb297,zz3,zz3,H',⟨Nat.le_refl _⟩,⟨by(with_reducible repeat(first|refine blk_drewN ?_ _|refine blk_drew ?_|refine blk_alloc ?_ _));refine blk_put (cs:= #[.string a0,.int .i64 0]) ?_ 1 _ rfl;(with_reducible repeat(first|refine blk_drewN ?_ _|refine blk_drew ?_|refine blk_alloc ?_ _));refine blk_put (cs:= #[.string (⟨#[]⟩:ByteArray),.int .i64 0]) ?_ 0 _ rfl;(with_reducible repeat(first|refine blk_drewN ?_ _|refine blk_drew ?_|refine blk_alloc ?_ _));exact BK297.out⟩,GE297,⟨zz38⟩⟩
  case round=>
   clear H';(try clear c2b0);(try clear c2b1);clear BK297 GE297;obtain⟨x3_1,xa,xb,gb297,rfl,rfl,HA,HK1,BK297,GE297,HB⟩:=hrel
   cases gk with
   |zero=>exact absurd HA.out (by simp[impl_Grammar.l0])
   |succ k1=>
    have H:=HA.out;clear HA;simp only[impl_Grammar.l0]at H
    by_cases c5:xb<(a0.size:Int)
    ·rw[if_pos c5]at H;have c5b0:decide (xb<(a0.size:Int))=true:=decide_eq_true c5;clear c5;replace H:=Option.bind_eq_some_iff.mp H;obtain⟨⟨t298,t299,t300⟩,A60,H⟩:=H;(try dsimp only at H);have A6:=Aside0.mk A60;clear A60;have HC7:=Aside0.mk H;clear H;obtain⟨_,_,_,_⟩:=cells2_ BK297.out;go_upto_if 25 with(first|((with_reducible refine gate_callee (f:=21) rfl ?_);refine goesQ_ 21 Tryz.func21 #[.agg #[.string xa,.int .i64 xb]] ?_;(with_reducible refine(impl_grammar.calls k1 xa xb t298 t299 t300 _ ?side1 A6.out).mono ?_);(case side1=>exact Gl.below HG.out zz38);rintro e w9 ⟨rfl,hb⟩;refine⟨_,rfl,?_⟩;replace BK297:=Aside0.mk (blk_below zz9 hb);replace HB:=Aside0.mk (below_step zz38 hb);(try clear hb))|((with_reducible refine gate_dst (N:=5) rfl ?_);refine boxP_ (N:=5) (cs:= #[.string (⟨#[]⟩:ByteArray),.int .i64 0]) (t:=41) ?_;intro gb301 hg w10 hbox hb;have BK301:=Aside0.mk (hbox);have GE301:=geb_ (w:=w) hg zz38;replace HB:=Aside0.mk (below_step zz38 hb);have NB297_301:=nbL_ (g:=gb297) hg zz9;have NB301_297:=nbG_ (g:=gb297) hg zz9;replace BK297:=Aside0.mk (blk_below zz9 hb);clear hb hbox hg;have hnb11:=NB301_297.out;have hnc11:=NB297_301.out;obtain⟨_,_,_,_⟩:=cells2_ BK301.out))
     (try simp only[Act.put,List.setIfInBounds_toArray,List.set_cons_zero,List.set_cons_succ]);have H:=HC7.out;clear HC7
     by_cases c13:t300=true
     ·subst c13;rw[if_pos rfl]at H;have H':=Aside0.mk H;clear H;have hnb14:=NB301_297.out;have hnc14:=NB297_301.out;obtain⟨_,_,_,_⟩:=cells2_ BK301.out;obtain⟨_,_,_,_⟩:=cells2_ BK297.out;go_wp2_with (first|((with_reducible refine gate_dst (N:=4) rfl ?_);refine boxP_ (N:=4) (cs:= #[.string (⟨#[]⟩:ByteArray),.int .i64 0]) (t:=41) ?_;intro gb302 hg w17 hbox hb;have BK302:=Aside0.mk (hbox);have GE302:=geb_ (w:=w) hg zz75;replace HB:=Aside0.mk (below_step zz75 hb);clear hb hbox hg;obtain⟨_,_,_,_⟩:=cells2_ BK302.out))
      go_roundg k1
      (case measure=>have:=HK1.out;omega);case rel=>exact⟨(wrap64 (x3_1+1)),t298,t299,gb302,zz3,zz3,H',⟨zz72⟩,⟨by(with_reducible repeat(first|refine blk_drewN ?_ _|refine blk_drew ?_|refine blk_alloc ?_ _));refine blk_put (cs:= #[.string t298,.int .i64 0]) ?_ 1 _ rfl;(with_reducible repeat(first|refine blk_drewN ?_ _|refine blk_drew ?_|refine blk_alloc ?_ _));refine blk_put (cs:= #[.string (⟨#[]⟩:ByteArray),.int .i64 0]) ?_ 0 _ rfl;(with_reducible repeat(first|refine blk_drewN ?_ _|refine blk_drew ?_|refine blk_alloc ?_ _));exact BK302.out⟩,GE302,⟨by repeat(first|(with_reducible first|exact HB.out|apply below_alloc|apply pw_below_drewN|apply below_drew1|refine below_set ?_ GE297.out|refine below_set ?_ GE301.out|refine below_set ?_ GE302.out)|exact HB.out)⟩⟩
     ·replace c13:=Bool.eq_false_iff.mpr c13;subst c13;rw[if_neg Bool.false_ne_true]at H;obtain rfl:=Option.some.inj H;go_wp2
      go_ret;exact⟨zz2,by repeat(first|(with_reducible first|exact HB.out|apply below_alloc|apply pw_below_drewN|apply below_drew1|refine below_set ?_ GE297.out|refine below_set ?_ GE301.out)|exact HB.out)⟩
    ·rw[if_neg c5]at H;have c5b0:decide (xb<(a0.size:Int))=false:=decide_eq_false c5;clear c5;obtain rfl:=Option.some.inj H;obtain⟨_,_,_,_⟩:=cells2_ BK297.out;go_wp2
     go_ret;exact⟨zz2,zz38⟩
def laws_FnExactGrammar.f (k:Nat) (a0:ByteArray):Option (Bool):=if(a0.size:Int)>1048576 then(some true)else((spec_Grammar.f k a0).bind fun t303=>((impl_Grammar.f k a0).bind fun t304=>(if t304=t303 then(some true)else(some false))))
theorem laws_FnExactGrammar.calls (k:Nat) (a0:ByteArray) (r:Bool) (w:World) (hG:Gl w) (h:laws_FnExactGrammar.f k a0=some r):
  Calls Tryz.prog 3 #[.string a0] w fun e w'=>e= .returned (.bool r)∧Below w.heap.size w w':=by
 have HG:=Aside0.mk hG;clear hG;have HB:=Aside0.mk (Below.refl w.heap.size w);have H:(if(a0.size:Int)>1048576 then(some true)else((spec_Grammar.f k a0).bind fun t303=>((impl_Grammar.f k a0).bind fun t304=>(if t304=t303 then(some true)else(some false)))))=some r:=h;clear h
 by_cases c2:(a0.size:Int)>1048576
 ·rw[if_pos c2]at H;have c2b0:decide (1048576<(a0.size:Int))=true:=decide_eq_true c2;have c2b1:decide (1048576<a0.size)=true:=decide_eq_true (by omega);clear c2;obtain rfl:=Option.some.inj H;go_enter Tryz.func3,Tryz.ntmps3
  go_wp2
  go_ret;exact⟨zz2,zz0⟩
 ·rw[if_neg c2]at H;have c2b0:decide (1048576<(a0.size:Int))=false:=decide_eq_false c2;have c2b1:decide (1048576<a0.size)=false:=decide_eq_false (by omega);clear c2;replace H:=Option.bind_eq_some_iff.mp H;obtain⟨t303,A30,H⟩:=H;(try dsimp only at H);have A3:=Aside0.mk A30;clear A30;replace H:=Option.bind_eq_some_iff.mp H;obtain⟨t304,A40,H⟩:=H;(try dsimp only at H);have A4:=Aside0.mk A40;clear A40;have HC5:=Aside0.mk H;clear H;go_enter Tryz.func3,Tryz.ntmps3
  go_upto_if 14 with(first|((with_reducible refine gate_callee (f:=7) rfl ?_);refine goesR_ 9 Tryz.func7 #[.string a0] (spec_Grammar.calls k a0 t303 _ A3.out) ?_;rintro w6 hb;replace HB:=Aside0.mk (below_step zz0 hb);(try clear hb))|((with_reducible refine gate_callee (f:=8) rfl ?_);refine goesQ_ 11 Tryz.func8 #[.string a0] ?_;(with_reducible refine(impl_Grammar.calls k a0 t304 _ ?side1 A4.out).mono ?_);(case side1=>exact Gl.below HG.out zz0);rintro e w7 ⟨rfl,hb⟩;refine⟨_,rfl,?_⟩;replace HB:=Aside0.mk (below_step zz0 hb);(try clear hb)))
  (try simp only[Act.put,List.setIfInBounds_toArray,List.set_cons_zero,List.set_cons_succ]);have H:=HC5.out;clear HC5
  by_cases c8:t304=t303
  ·rw[if_pos c8]at H;have c8b0:(t304==t303)=true:=beq_iff_eq.mpr c8;have c8b1:(t304 !=t303)=false:=bne_eq_false_iff_eq.mpr c8;clear c8;(first|rw[c8b0]|(simp only[i64_w,i32_w];rw[c8b0])|rw[c8b1]|(rw[c8b2];simp only[Bool.not_true,Bool.not_false])|skip);obtain rfl:=Option.some.inj H;go_wp2
   go_ret;exact⟨zz2,zz0⟩
  ·rw[if_neg c8]at H;have c8b0:(t304==t303)=false:=beq_eq_false_iff_ne.mpr c8;have c8b1:(t304 !=t303)=true:=bne_iff_ne.mpr c8;(first|rw[c8b0]|(simp only[i64_w,i32_w];rw[c8b0])|rw[c8b1]|(rw[c8b2];simp only[Bool.not_true,Bool.not_false])|skip);obtain rfl:=Option.some.inj H;go_wp2
   go_ret;exact⟨zz2,zz0⟩
def laws_FnExactGrammar.Pure:Prop:= ∀(a0:ByteArray),(a0.size≤9223372036854775807)→ ∃k,laws_FnExactGrammar.f k a0=some true
theorem laws_FnExactGrammar.walk (P:laws_FnExactGrammar.Pure) (a0:ByteArray) (w:World) (hG:Gl w) (ok_0:a0.size≤9223372036854775807):
  Calls Tryz.prog 3 #[.string a0] w fun e w'=>e= .returned (.bool true)∧Below w.heap.size w w':=by
 obtain⟨k,h⟩:=P a0 ok_0;refine(laws_FnExactGrammar.calls k a0 true w hG h).mono ?_;rintro e w' ⟨rfl,hd⟩;exact⟨rfl,hd⟩
end Go.Proofs.YtnilblnhlpnpgaaGreatDoor.GFnExactGrammar
