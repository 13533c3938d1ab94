-- Printed by gen.py and its programs for this claim.
import Derived.Test.YtnilblnhlpnpgaaGreatDoorGFnTwicex0
import Derived.Test.YtnilblnhlpnpgaaGreatDoorGFnTwicex14
import Derived.Test.YtnilblnhlpnpgaaGreatDoorGFnTwicex18
import Derived.Test.YtnilblnhlpnpgaaGreatDoorZFnTwice
namespace Go.Proofs.YtnilblnhlpnpgaaGreatDoor.GFnTwice
open Go.RowKit Go.Proofs.YtnilblnhlpnpgaaGreatDoorW.PrintWords Go.Proofs.YtnilblnhlpnpgaaGreatDoorW.PrintLast Go.Proofs.YtnilblnhlpnpgaaGreatDoorW.PrintMore Go.Proofs.YtnilblnhlpnpgaaGreatDoorW.Zs
set_option maxHeartbeats 40000000
set_option maxRecDepth 100000
attribute [local go_sem] max2_int min2_int max_two min_two max_three min_three max_four min_four
set_option linter.unusedVariables false
set_option linter.unusedSimpArgs false
def spec_DrawWriteMsg.f (k:Nat) (l0:List Int):Option (ByteArray×ByteArray×Int×ByteArray×Bool×(List (S82))×ByteArray):=(spec_l1New.f k l0).bind fun bt539=>((spec_l6msgBent.f k bt539.1 bt539.2.1 bt539.2.2).bind fun bt543=>(some (bt543.1,bt543.2.1,bt543.2.2.1,bt543.2.2.2.1,bt543.2.2.2.2.1,bt543.2.2.2.2.2.1,bt543.2.2.2.2.2.2.1)))
theorem spec_DrawWriteMsg.calls (k:Nat) (A0:Option Addr) (c0:Nat) (l0:List Int) (r1 r2:ByteArray) (r3:Int) (r4:ByteArray) (r5:Bool) (r6:List (S82)) (r7:ByteArray) (w:World) (hr0:Kd.C (Kd.int .u8) w A0 l0.length l0) (hc0:l0.length≤c0) (h:spec_DrawWriteMsg.f k l0=some (r1,r2,r3,r4,r5,r6,r7)):
  Calls Tryz.prog 14 #[.slice A0 l0.length c0] w fun e w'=> ∃v5_:Value,e= .returned (.agg #[.string r1,.string r2,.int .i64 r3,.string r4,.bool r5,v5_,.string r7])∧Kd.R k82 82 w' w.heap.size (fun _=>True) v5_ r6∧Below w.heap.size w w':=by
 have hu34:=Tryz.underlying34;have HR0:=Aside0.mk hr0;have HC0:=Aside0.mk hc0;clear hr0 hc0;have HB:=Aside0.mk (Below.refl w.heap.size w);have H:((spec_l1New.f k l0).bind fun bt539=>((spec_l6msgBent.f k bt539.1 bt539.2.1 bt539.2.2).bind fun bt543=>(some (bt543.1,bt543.2.1,bt543.2.2.1,bt543.2.2.2.1,bt543.2.2.2.2.1,bt543.2.2.2.2.2.1,bt543.2.2.2.2.2.2.1))))=some (r1,r2,r3,r4,r5,r6,r7):=h;clear h;replace H:=Option.bind_eq_some_iff.mp H;obtain⟨⟨t539,t540,t541⟩,A20,H⟩:=H;(try dsimp only at H);have A2:=Aside0.mk A20;clear A20;replace H:=Option.bind_eq_some_iff.mp H;obtain⟨⟨t543,t544,t545,t546,t547,t548,t551,t552,t553⟩,A30,H⟩:=H;(try dsimp only at H);have A3:=Aside0.mk A30;clear A30;simp only[Option.some.injEq,Prod.mk.injEq]at H;obtain⟨rfl,rfl,rfl,rfl,rfl,rfl,rfl⟩:=H;go_enter Tryz.func14,Tryz.ntmps14
 go_wp2_with (first|((with_reducible refine gate_dst (N:=2) rfl ?_);refine boxP_ (N:=2) (cs:= #[.string (⟨#[]⟩:ByteArray),.string (⟨#[]⟩:ByteArray),.int .i64 0,.string (⟨#[]⟩:ByteArray),.bool false,.slice none 0 0,.string (⟨#[]⟩:ByteArray)]) (t:=34) ?_;intro gb538 hg w4 hbox hb;have BK538:=Aside0.mk (hbox);have GE538:=geb_ (w:=w) hg zz0;replace HB:=Aside0.mk (below_step zz0 hb);clear hb hbox hg)|((with_reducible refine gate_callee (f:=22) rfl ?_);refine goesQ_ 4 Tryz.func22 #[.slice A0 l0.length c0] ?_;(with_reducible refine(spec_l1New.calls k _ _ l0 t539 t540 t541 w _ ?side1 ?side2 ?side3 A2.out).mono ?_);(case side1=>repeat(first|(with_reducible first|exact HB.out|apply below_alloc|apply pw_below_drewN|apply below_drew1|refine below_set ?_ GE538.out)|exact HB.out));(case side2=>exact HR0.out);(case side3=>exact HC0.out);rintro e w5 ⟨g542,rfl,hi,hb,hb2⟩;refine⟨_,rfl,?_⟩;replace HB:=Aside0.mk (hb);have HI542:=Aside0.mk (hi);have NB542_538:=Aside0.mk (IsS73.ne_blk hi (blk_below zz134 hb2) (by decide));have NB538_542:=Aside0.mk (Ne.symm (IsS73.ne_blk hi (blk_below zz134 hb2) (by decide)));replace BK538:=Aside0.mk (blk_below zz134 hb2);(try clear hb);(try clear hb2);(try clear hi))|((with_reducible refine gate_callee (f:=36) rfl ?_);refine goesQ_ 5 Tryz.func36 #[.pointer (some ⟨g542,0,none⟩)] ?_;(with_reducible refine(spec_l6msgBent.calls k g542 t539 t540 t541 t543 t544 t545 t546 t547 t548 t551 t552 t553 w _ ?side1 ?side2 A3.out).mono ?_);(case side1=>repeat(first|(with_reducible first|exact HI542.out|apply IsS73.alloc|apply IsS73.drewN|apply IsS73.drew|apply IsS73.set_1|apply IsS73.set_2|refine IsS73.far ?_ NB542_538.out _)|exact HI542.out));(case side2=>repeat(first|(with_reducible first|exact HB.out|apply below_alloc|apply pw_below_drewN|apply below_drew1|refine below_set ?_ (IsS73.ge HI542.out)|refine below_set ?_ GE538.out)|exact HB.out));rintro e w6 ⟨v549,rfl,ho0,hi,hb,hk⟩;refine⟨_,rfl,?_⟩;replace BK538:=Aside0.mk (KeepBut.blk hk (g':=gb538) (o:= .cells #[.string (⟨#[]⟩:ByteArray),.string (⟨#[]⟩:ByteArray),.int .i64 0,.string (⟨#[]⟩:ByteArray),.bool false,.slice none 0 0,.string (⟨#[]⟩:ByteArray)] 34 (0,0)) zz134 NB538_542.out (by simp));have HO550:=Aside0.mk (Kd.R_lower ho0 (below_size zz153));replace HB:=Aside0.mk (hb);replace HI542:=Aside0.mk (hi);(try clear hb);(try clear hk);(try clear hi);(try clear ho0);have hnb7:=NB538_542.out;have hnc7:=NB542_538.out;obtain⟨_,_,_,_,_,_,_,_,_,_,_,_,_,_⟩:=cells7_ BK538.out;obtain⟨Ao9,co9,eo9⟩:=Kd.R_slice HO550.out;subst eo9))
 refine bodyPost_ret (results_cell_row rfl _ _ gb538 34 #[.string t543,.string t544,.int .i64 t545,.string t546,.bool t547,.slice Ao9 t548.length co9,.string t551] (0,0) _ rfl (by(with_reducible repeat(first|refine blk_drewN ?_ _|refine blk_drew ?_|refine blk_alloc ?_ _));refine blk_put (cs:= #[.string t543,.string t544,.int .i64 t545,.string t546,.bool t547,.slice Ao9 t548.length co9,.string (⟨#[]⟩:ByteArray)]) ?_ 6 _ rfl;(with_reducible repeat(first|refine blk_drewN ?_ _|refine blk_drew ?_|refine blk_alloc ?_ _));refine blk_put (cs:= #[.string t543,.string t544,.int .i64 t545,.string t546,.bool t547,.slice none 0 0,.string (⟨#[]⟩:ByteArray)]) ?_ 5 _ rfl;(with_reducible repeat(first|refine blk_drewN ?_ _|refine blk_drew ?_|refine blk_alloc ?_ _));refine blk_put (cs:= #[.string t543,.string t544,.int .i64 t545,.string t546,.bool false,.slice none 0 0,.string (⟨#[]⟩:ByteArray)]) ?_ 4 _ rfl;(with_reducible repeat(first|refine blk_drewN ?_ _|refine blk_drew ?_|refine blk_alloc ?_ _));refine blk_put (cs:= #[.string t543,.string t544,.int .i64 t545,.string (⟨#[]⟩:ByteArray),.bool false,.slice none 0 0,.string (⟨#[]⟩:ByteArray)]) ?_ 3 _ rfl;(with_reducible repeat(first|refine blk_drewN ?_ _|refine blk_drew ?_|refine blk_alloc ?_ _));refine blk_put (cs:= #[.string t543,.string t544,.int .i64 0,.string (⟨#[]⟩:ByteArray),.bool false,.slice none 0 0,.string (⟨#[]⟩:ByteArray)]) ?_ 2 _ rfl;(with_reducible repeat(first|refine blk_drewN ?_ _|refine blk_drew ?_|refine blk_alloc ?_ _));refine blk_put (cs:= #[.string t543,.string (⟨#[]⟩:ByteArray),.int .i64 0,.string (⟨#[]⟩:ByteArray),.bool false,.slice none 0 0,.string (⟨#[]⟩:ByteArray)]) ?_ 1 _ rfl;(with_reducible repeat(first|refine blk_drewN ?_ _|refine blk_drew ?_|refine blk_alloc ?_ _));refine blk_put (cs:= #[.string (⟨#[]⟩:ByteArray),.string (⟨#[]⟩:ByteArray),.int .i64 0,.string (⟨#[]⟩:ByteArray),.bool false,.slice none 0 0,.string (⟨#[]⟩:ByteArray)]) ?_ 0 _ rfl;(with_reducible repeat(first|refine blk_drewN ?_ _|refine blk_drew ?_|refine blk_alloc ?_ _));exact BK538.out) Tryz.underlying34 rfl (by kernel_rfl)) rfl ?_;exact⟨_,zz1,by(with_reducible repeat(first|apply Kd.R_alloc|apply Kd.R_drewN|apply Kd.R_drew));exact Kd.R_mono (Kd.R_far (p:=⟨gb538,6,none⟩) (Kd.R_far (p:=⟨gb538,5,none⟩) (Kd.R_far (p:=⟨gb538,4,none⟩) (Kd.R_far (p:=⟨gb538,3,none⟩) (Kd.R_far (p:=⟨gb538,2,none⟩) (Kd.R_far (p:=⟨gb538,1,none⟩) (Kd.R_far (p:=⟨gb538,0,none⟩) (Kd.R_types HO550.out BK538.out (by decide)) (fun _ hk=>hk.2) (.string t543)) (fun _ hk=>hk.2) (.string t544)) (fun _ hk=>hk.2) (.int .i64 t545)) (fun _ hk=>hk.2) (.string t546)) (fun _ hk=>hk.2) (.bool t547)) (fun _ hk=>hk.2) (.slice Ao9 t548.length co9)) (fun _ hk=>hk.2) (.string t551)) (fun _ hk=>trivial),zz153⟩
def spec_l1lower.f (a0:Int):Option (Int):=if a0≥65 then(if a0≤90 then(some ((a0+32)%256))else(some a0))else(some a0)
theorem spec_l1lower.calls (a0 r:Int) (w:World) (h:spec_l1lower.f a0=some r):
  Calls Tryz.prog 96 #[.int .u8 a0] w fun e w'=>e= .returned (.int .u8 r)∧Drawn0 w w':=by
 have H:(if a0≥65 then(if a0≤90 then(some ((a0+32)%256))else(some a0))else(some a0))=some r:=h;clear h
 by_cases c2:a0≥65
 ·rw[if_pos c2]at H;have c2b0:decide (65≤a0)=true:=decide_eq_true c2;clear c2
  by_cases c3:a0≤90
  ·rw[if_pos c3]at H;have c3b0:decide (a0≤90)=true:=decide_eq_true c3;clear c3;obtain rfl:=Option.some.inj H;go_enter Tryz.func96,Tryz.ntmps96
   go_wp2
   go_ret;exact⟨zz4,zz7⟩
  ·rw[if_neg c3]at H;have c3b0:decide (a0≤90)=false:=decide_eq_false c3;clear c3;obtain rfl:=Option.some.inj H;go_enter Tryz.func96,Tryz.ntmps96
   go_wp2
   go_ret;exact⟨zz4,zz7⟩
 ·rw[if_neg c2]at H;have c2b0:decide (65≤a0)=false:=decide_eq_false c2;clear c2;obtain rfl:=Option.some.inj H;go_enter Tryz.func96,Tryz.ntmps96
  go_wp2
  go_ret;exact⟨zz4,zz7⟩
def spec_l1digit.f (a0:Int):Option (Bool):=if a0≥48 then(some (decide (a0≤57)))else(some false)
theorem spec_l1digit.calls (a0:Int) (r:Bool) (w:World) (h:spec_l1digit.f a0=some r):
  Calls Tryz.prog 100 #[.int .u8 a0] w fun e w'=>e= .returned (.bool r)∧Drawn0 w w':=by
 have H:(if a0≥48 then(some (decide (a0≤57)))else(some false))=some r:=h;clear h
 by_cases c2:a0≥48
 ·rw[if_pos c2]at H;have c2b0:decide (48≤a0)=true:=decide_eq_true c2;clear c2;obtain rfl:=Option.some.inj H;go_enter Tryz.func100,Tryz.ntmps100
  go_wp2
  go_ret;exact⟨zz4,zz7⟩
 ·rw[if_neg c2]at H;have c2b0:decide (48≤a0)=false:=decide_eq_false c2;clear c2;obtain rfl:=Option.some.inj H;go_enter Tryz.func100,Tryz.ntmps100
  go_wp2
  go_ret;exact⟨zz4,zz7⟩
def spec_l1has.l0:Nat→ByteArray→Int→Int→Option (Bool)
 |0,_,_,_=>none
 |k+1,x0,x1,x5=>if x5<(x0.size:Int)then(if 0≤x5 then(if(bt x0 x5)=x1 then(some true)else(spec_l1has.l0 k x0 x1 (wrap64 (x5+1))))else(none))else(some false)
def spec_l1has.f (k:Nat) (a0:ByteArray) (a1:Int):Option (Bool):=spec_l1has.l0 k a0 a1 0
theorem spec_l1has.calls (k:Nat) (a0:ByteArray) (a1:Int) (r:Bool) (w:World) (h:spec_l1has.f k a0 a1=some r):
  Calls Tryz.prog 126 #[.string a0,.int .u8 a1] w fun e w'=>e= .returned (.bool r)∧Drawn0 w w':=by
 have H:(spec_l1has.l0 k a0 a1 0)=some r:=h;clear h;have H':=Aside0.mk H;clear H;go_enter Tryz.func126,Tryz.ntmps126
 go_wp2
 go_loopg [5] k (fun kq v5 w'=> ∃(x5_1:Int),v5= .int .i64 x5_1∧Aside0 (spec_l1has.l0 kq a0 a1 x5_1=some r)∧Aside0 (kq≤k)∧Drawn0 w w')
 case atStart=>exact⟨(0),zz4,H',⟨Nat.le_refl _⟩,zz7⟩
 case round=>
  clear H';(try clear c1);(try clear p2);obtain⟨x5_1,rfl,HA,HK1,⟨m1,rfl⟩⟩:=hrel
  cases gk with
  |zero=>exact absurd HA.out (by simp[spec_l1has.l0])
  |succ k1=>
   have H:=HA.out;clear HA;simp only[spec_l1has.l0]at H
   by_cases c3:x5_1<(a0.size:Int)
   ·rw[if_pos c3]at H;have c3b0:decide (x5_1<(a0.size:Int))=true:=decide_eq_true c3;clear c3
    by_cases c4:0≤x5_1
    ·rw[if_pos c4]at H;have c4b0:decide (0≤x5_1)=true:=decide_eq_true c4;clear c4
     by_cases c6:(bt a0 x5_1)=a1
     ·rw[if_pos c6]at H;have c6b0:((bt a0 x5_1)==a1)=true:=beq_iff_eq.mpr c6;have c6b1:((bt a0 x5_1)!=a1)=false:=bne_eq_false_iff_eq.mpr c6;clear c6;obtain rfl:=Option.some.inj H;have p5:0≤(x5_1:Int):=of_decide_eq_true zz16;have q5:x5_1<(a0.size:Int):=of_decide_eq_true zz16;have hx5:=bt_at a0 x5_1;replace p5:=eq_true p5;replace q5:=eq_true q5;go_wp2
      go_ret;exact⟨zz4,zz7⟩
     ·rw[if_neg c6]at H;have c6b0:((bt a0 x5_1)==a1)=false:=beq_eq_false_iff_ne.mpr c6;have c6b1:((bt a0 x5_1)!=a1)=true:=bne_iff_ne.mpr c6;have H':=Aside0.mk H;clear H;have p5:0≤(x5_1:Int):=of_decide_eq_true zz16;have q5:x5_1<(a0.size:Int):=of_decide_eq_true zz16;have hx5:=bt_at a0 x5_1;replace p5:=eq_true p5;replace q5:=eq_true q5;go_wp2
      go_roundg k1
      (case measure=>have:=HK1.out;omega);case rel=>exact⟨(wrap64 (x5_1+1)),zz4,H',⟨zz119⟩,zz7⟩
    ·rw[if_neg c4]at H;exact absurd H (by simp)
   ·rw[if_neg c3]at H;have c3b0:decide (x5_1<(a0.size:Int))=false:=decide_eq_false c3;clear c3;obtain rfl:=Option.some.inj H;go_wp2
    go_ret;exact⟨zz4,zz7⟩
def spec_l1tchar.f (k:Nat) (a0:Int):Option (Bool):=(spec_l1lower.f a0).bind fun t554=>(if t554≥97 then(if t554≤122 then(some true)else((spec_l1digit.f a0).bind fun t555=>(if t555=true then(some true)else(if a0=96 then(some true)else((spec_l1has.f k (⟨#[33,35,36,37,38,39,42,43,45,46,94,95,124,126]⟩:ByteArray) a0).bind fun t556=>(some t556))))))else((spec_l1digit.f a0).bind fun t557=>(if t557=true then(some true)else(if a0=96 then(some true)else((spec_l1has.f k (⟨#[33,35,36,37,38,39,42,43,45,46,94,95,124,126]⟩:ByteArray) a0).bind fun t558=>(some t558))))))
theorem spec_l1tchar.calls (k:Nat) (a0:Int) (r:Bool) (w:World) (h:spec_l1tchar.f k a0=some r):
  Calls Tryz.prog 93 #[.int .u8 a0] w fun e w'=>e= .returned (.bool r)∧Drawn0 w w':=by
 have H:((spec_l1lower.f a0).bind fun t554=>(if t554≥97 then(if t554≤122 then(some true)else((spec_l1digit.f a0).bind fun t555=>(if t555=true then(some true)else(if a0=96 then(some true)else((spec_l1has.f k (⟨#[33,35,36,37,38,39,42,43,45,46,94,95,124,126]⟩:ByteArray) a0).bind fun t556=>(some t556))))))else((spec_l1digit.f a0).bind fun t557=>(if t557=true then(some true)else(if a0=96 then(some true)else((spec_l1has.f k (⟨#[33,35,36,37,38,39,42,43,45,46,94,95,124,126]⟩:ByteArray) a0).bind fun t558=>(some t558)))))))=some r:=h;clear h;replace H:=Option.bind_eq_some_iff.mp H;obtain⟨t554,A20,H⟩:=H;(try dsimp only at H);have A2:=Aside0.mk A20;clear A20;have HC3:=Aside0.mk H;clear H;go_enter Tryz.func93,Tryz.ntmps93
 repeat' (first|(go_big_may;(first|((with_reducible refine gate_callee (f:=96) rfl ?_);refine goesR_ 5 Tryz.func96 #[.int .u8 a0] (spec_l1lower.calls a0 t554 _ A2.out) ?_;rintro w' ⟨nd,rfl⟩)))|go_values|go_skip|go_big_skip|go_big_want|((first|(with_reducible refine gate_nog rfl ?_)|(fail_if_success with_reducible refine gate_any ?_));go_step)|go_upon|simp only[Bool.not_true,Bool.not_false,Bool.true_and,Bool.false_and,Bool.true_or,Bool.false_or]|dsimp only)
 (try simp only[Act.put,List.setIfInBounds_toArray,List.set_cons_zero,List.set_cons_succ]);have H:=HC3.out;clear HC3
 by_cases c4:t554≥97
 ·rw[if_pos c4]at H;have c4b0:decide (97≤t554)=true:=decide_eq_true c4;clear c4;(first|rw[c4b0]|(simp only[i64_w,i32_w];rw[c4b0])|skip)
  by_cases c5:t554≤122
  ·rw[if_pos c5]at H;have c5b0:decide (t554≤122)=true:=decide_eq_true c5;clear c5;obtain rfl:=Option.some.inj H;go_wp2
   go_ret;exact⟨zz4,zz7⟩
  ·rw[if_neg c5]at H;have c5b0:decide (t554≤122)=false:=decide_eq_false c5;clear c5;replace H:=Option.bind_eq_some_iff.mp H;obtain⟨t555,A60,H⟩:=H;(try dsimp only at H);have A6:=Aside0.mk A60;clear A60;have HC7:=Aside0.mk H;clear H
   repeat' (first|(go_big_may;(first|(go_at_call 100;(with_reducible refine(spec_l1digit.calls a0 t555 _ A6.out).mono ?_);rintro e w' ⟨rfl,⟨nd,rfl⟩⟩)))|go_values|go_skip|go_big_skip|go_big_want|((first|(with_reducible refine gate_nog rfl ?_)|(fail_if_success with_reducible refine gate_any ?_));go_step)|go_upon|simp only[Bool.not_true,Bool.not_false,Bool.true_and,Bool.false_and,Bool.true_or,Bool.false_or]|dsimp only)
   (try simp only[Act.put,List.setIfInBounds_toArray,List.set_cons_zero,List.set_cons_succ]);have H:=HC7.out;clear HC7
   by_cases c8:t555=true
   ·subst c8;rw[if_pos rfl]at H;obtain rfl:=Option.some.inj H;go_wp2
    go_ret;exact⟨zz4,zz7⟩
   ·replace c8:=Bool.eq_false_iff.mpr c8;subst c8;rw[if_neg Bool.false_ne_true]at H
    by_cases c9:a0=96
    ·rw[if_pos c9]at H;have c9b0:(a0==96)=true:=beq_iff_eq.mpr c9;have c9b1:(a0 !=96)=false:=bne_eq_false_iff_eq.mpr c9;clear c9;(first|rw[c9b0]|(simp only[i64_w,i32_w];rw[c9b0])|rw[c9b1]|(rw[c9b2];simp only[Bool.not_true,Bool.not_false])|skip);obtain rfl:=Option.some.inj H;go_wp2
     go_ret;exact⟨zz4,zz7⟩
    ·rw[if_neg c9]at H;have c9b0:(a0==96)=false:=beq_eq_false_iff_ne.mpr c9;have c9b1:(a0 !=96)=true:=bne_iff_ne.mpr c9;(first|rw[c9b0]|(simp only[i64_w,i32_w];rw[c9b0])|rw[c9b1]|(rw[c9b2];simp only[Bool.not_true,Bool.not_false])|skip);replace H:=Option.bind_eq_some_iff.mp H;obtain⟨t556,A100,H⟩:=H;(try dsimp only at H);have A10:=Aside0.mk A100;clear A100;obtain rfl:=Option.some.inj H;go_wp2_with (first|(go_at_call 126;(with_reducible refine(spec_l1has.calls k (⟨#[33,35,36,37,38,39,42,43,45,46,94,95,124,126]⟩:ByteArray) a0 t556 _ A10.out).mono ?_);rintro e w' ⟨rfl,⟨nd,rfl⟩⟩))
     go_ret;exact⟨zz4,zz7⟩
 ·rw[if_neg c4]at H;have c4b0:decide (97≤t554)=false:=decide_eq_false c4;clear c4;(first|rw[c4b0]|(simp only[i64_w,i32_w];rw[c4b0])|skip);replace H:=Option.bind_eq_some_iff.mp H;obtain⟨t557,A110,H⟩:=H;(try dsimp only at H);have A11:=Aside0.mk A110;clear A110;have HC12:=Aside0.mk H;clear H
  repeat' (first|(go_big_may;(first|(go_at_call 100;(with_reducible refine(spec_l1digit.calls a0 t557 _ A11.out).mono ?_);rintro e w' ⟨rfl,⟨nd,rfl⟩⟩)))|go_values|go_skip|go_big_skip|go_big_want|((first|(with_reducible refine gate_nog rfl ?_)|(fail_if_success with_reducible refine gate_any ?_));go_step)|go_upon|simp only[Bool.not_true,Bool.not_false,Bool.true_and,Bool.false_and,Bool.true_or,Bool.false_or]|dsimp only)
  (try simp only[Act.put,List.setIfInBounds_toArray,List.set_cons_zero,List.set_cons_succ]);have H:=HC12.out;clear HC12
  by_cases c13:t557=true
  ·subst c13;rw[if_pos rfl]at H;obtain rfl:=Option.some.inj H;go_wp2
   go_ret;exact⟨zz4,zz7⟩
  ·replace c13:=Bool.eq_false_iff.mpr c13;subst c13;rw[if_neg Bool.false_ne_true]at H
   by_cases c14:a0=96
   ·rw[if_pos c14]at H;have c14b0:(a0==96)=true:=beq_iff_eq.mpr c14;have c14b1:(a0 !=96)=false:=bne_eq_false_iff_eq.mpr c14;clear c14;(first|rw[c14b0]|(simp only[i64_w,i32_w];rw[c14b0])|rw[c14b1]|(rw[c14b2];simp only[Bool.not_true,Bool.not_false])|skip);obtain rfl:=Option.some.inj H;go_wp2
    go_ret;exact⟨zz4,zz7⟩
   ·rw[if_neg c14]at H;have c14b0:(a0==96)=false:=beq_eq_false_iff_ne.mpr c14;have c14b1:(a0 !=96)=true:=bne_iff_ne.mpr c14;(first|rw[c14b0]|(simp only[i64_w,i32_w];rw[c14b0])|rw[c14b1]|(rw[c14b2];simp only[Bool.not_true,Bool.not_false])|skip);replace H:=Option.bind_eq_some_iff.mp H;obtain⟨t558,A150,H⟩:=H;(try dsimp only at H);have A15:=Aside0.mk A150;clear A150;obtain rfl:=Option.some.inj H;go_wp2_with (first|(go_at_call 126;(with_reducible refine(spec_l1has.calls k (⟨#[33,35,36,37,38,39,42,43,45,46,94,95,124,126]⟩:ByteArray) a0 t558 _ A15.out).mono ?_);rintro e w' ⟨rfl,⟨nd,rfl⟩⟩))
    go_ret;exact⟨zz4,zz7⟩
mutual
def spec_Token.j0:Nat→ByteArray→Bool→Option (Bool)
 |0,_,_=>none
 |k+1,x0,x11=>if x11=true then(some false)else(spec_Token.l0 k x0 0)
def spec_Token.l0:Nat→ByteArray→Int→Option (Bool)
 |0,_,_=>none
 |k+1,x0,x3=>if x3<(x0.size:Int)then(if 0≤x3 then((spec_l1tchar.f k (bt x0 x3)).bind fun t559=>(if t559=true then(spec_Token.l0 k x0 (wrap64 (x3+1)))else(some false)))else(none))else(some true)
end
def spec_Token.f (k:Nat) (a0:ByteArray):Option (Bool):=if(a0.size:Int)=0 then(spec_Token.j0 k a0 true)else(spec_Token.j0 k a0 (decide ((a0.size:Int)>4000)))
theorem spec_Token.calls (k:Nat) (a0:ByteArray) (r:Bool) (w:World) (h:spec_Token.f k a0=some r):
  Calls Tryz.prog 46 #[.string a0] w fun e w'=>e= .returned (.bool r)∧Drawn0 w w':=by
 have H:(if(a0.size:Int)=0 then(spec_Token.j0 k a0 true)else(spec_Token.j0 k a0 (decide ((a0.size:Int)>4000))))=some r:=h;clear h;have HC2:=Aside0.mk H;clear H;go_enter Tryz.func46,Tryz.ntmps46
 go_upto_region 1 with(fail)
 go_cut [11] (fun v11 wc=> ∃(kq:Nat) (x11_1:Bool),v11= .bool x11_1∧Aside0 (spec_Token.j0 kq a0 x11_1=some r)∧Aside0 (kq≤k)∧Drawn0 w wc)
 case first=>
  have H:=HC2.out;clear HC2
  by_cases c3:(a0.size:Int)=0
  ·rw[if_pos c3]at H;have c3b0:((a0.size:Int)==0)=true:=beq_iff_eq.mpr c3;have c3b1:((a0.size:Int)!=0)=false:=bne_eq_false_iff_eq.mpr c3;clear c3;(first|rw[c3b0]|(simp only[i64_w,i32_w];rw[c3b0])|rw[c3b1]|(rw[c3b2];simp only[Bool.not_true,Bool.not_false])|skip);have H':=Aside0.mk H;clear H;go_wp2
   go_meet
   case rel=>exact⟨_,(true),zz4,H',⟨zz55⟩,zz7⟩
  ·rw[if_neg c3]at H;have c3b0:((a0.size:Int)==0)=false:=beq_eq_false_iff_ne.mpr c3;have c3b1:((a0.size:Int)!=0)=true:=bne_iff_ne.mpr c3;(first|rw[c3b0]|(simp only[i64_w,i32_w];rw[c3b0])|rw[c3b1]|(rw[c3b2];simp only[Bool.not_true,Bool.not_false])|skip);have H':=Aside0.mk H;clear H;go_wp2
   go_meet
   case rel=>exact⟨_,(decide ((a0.size:Int)>4000)),zz4,H',⟨zz55⟩,zz7⟩
 case rest=>
  clear HC2;(try clear p2);(try clear c3);(try clear c3b0);(try clear c3b1);obtain⟨kq,x11_1,rfl,HA,HJ1,⟨mc1,rfl⟩⟩:=hcut
  cases kq with
  |zero=>exact absurd HA.out (by simp[spec_Token.j0])
  |succ kj1=>
   have H:=HA.out;clear HA;simp only[spec_Token.j0]at H
   by_cases c4:x11_1=true
   ·subst c4;rw[if_pos rfl]at H;obtain rfl:=Option.some.inj H;go_wp2
    go_ret;exact⟨zz4,zz7⟩
   ·replace c4:=Bool.eq_false_iff.mpr c4;subst c4;rw[if_neg Bool.false_ne_true]at H;have H':=Aside0.mk H;clear H;go_wp2
    go_loopg [3] kj1 (fun kq v3 w'=> ∃(x3_2:Int),v3= .int .i64 x3_2∧Aside0 (spec_Token.l0 kq a0 x3_2=some r)∧Aside0 (kq≤kj1)∧Drawn0 w w')
    case atStart=>exact⟨(0),zz4,H',⟨Nat.le_refl _⟩,zz7⟩
    case round=>
     clear H';(try clear c1);(try clear p2);(try clear c3);(try clear c3b0);(try clear c3b1);(try clear c4);(try clear p2);obtain⟨x3_2,rfl,HA,HK2,⟨m2,rfl⟩⟩:=hrel
     cases gk with
     |zero=>exact absurd HA.out (by simp[spec_Token.l0])
     |succ k2=>
      have H:=HA.out;clear HA;simp only[spec_Token.l0]at H
      by_cases c5:x3_2<(a0.size:Int)
      ·rw[if_pos c5]at H;have c5b0:decide (x3_2<(a0.size:Int))=true:=decide_eq_true c5;clear c5
       by_cases c6:0≤x3_2
       ·rw[if_pos c6]at H;have c6b0:decide (0≤x3_2)=true:=decide_eq_true c6;clear c6;replace H:=Option.bind_eq_some_iff.mp H;obtain⟨t559,A80,H⟩:=H;(try dsimp only at H);have A8:=Aside0.mk A80;clear A80;have HC9:=Aside0.mk H;clear H;have p7:0≤(x3_2:Int):=of_decide_eq_true zz16;have q7:x3_2<(a0.size:Int):=of_decide_eq_true zz16;have hx7:=bt_at a0 x3_2;replace p7:=eq_true p7;replace q7:=eq_true q7;go_upto_if 22 with(first|((with_reducible refine gate_callee (f:=93) rfl ?_);refine goesR_ 21 Tryz.func93 #[.int .u8 (bt a0 x3_2)] (spec_l1tchar.calls k2 (bt a0 x3_2) t559 _ A8.out) ?_;rintro w' ⟨nd,rfl⟩))
        (try simp only[Act.put,List.setIfInBounds_toArray,List.set_cons_zero,List.set_cons_succ]);have H:=HC9.out;clear HC9
        by_cases c10:t559=true
        ·subst c10;rw[if_pos rfl]at H;have H':=Aside0.mk H;clear H;go_wp2
         go_roundg k2
         (case measure=>have:=HJ1.out;have:=HK2.out;omega);case rel=>exact⟨(wrap64 (x3_2+1)),zz4,H',⟨by have:=HJ1.out;have:=HK2.out;omega⟩,zz7⟩
        ·replace c10:=Bool.eq_false_iff.mpr c10;subst c10;rw[if_neg Bool.false_ne_true]at H;obtain rfl:=Option.some.inj H;go_wp2
         go_ret;exact⟨zz4,zz7⟩
       ·rw[if_neg c6]at H;exact absurd H (by simp)
      ·rw[if_neg c5]at H;have c5b0:decide (x3_2<(a0.size:Int))=false:=decide_eq_false c5;clear c5;obtain rfl:=Option.some.inj H;go_wp2
       go_ret;exact⟨zz4,zz7⟩
def spec_l1white.f (a0:Int):Option (Bool):=if a0=32 then(some true)else(some (a0==9))
theorem spec_l1white.calls (a0:Int) (r:Bool) (w:World) (h:spec_l1white.f a0=some r):
  Calls Tryz.prog 94 #[.int .u8 a0] w fun e w'=>e= .returned (.bool r)∧Drawn0 w w':=by
 have H:(if a0=32 then(some true)else(some (a0==9)))=some r:=h;clear h
 by_cases c2:a0=32
 ·rw[if_pos c2]at H;have c2b0:(a0==32)=true:=beq_iff_eq.mpr c2;have c2b1:(a0 !=32)=false:=bne_eq_false_iff_eq.mpr c2;clear c2;obtain rfl:=Option.some.inj H;go_enter Tryz.func94,Tryz.ntmps94
  go_wp2
  go_ret;exact⟨zz4,zz7⟩
 ·rw[if_neg c2]at H;have c2b0:(a0==32)=false:=beq_eq_false_iff_ne.mpr c2;have c2b1:(a0 !=32)=true:=bne_iff_ne.mpr c2;obtain rfl:=Option.some.inj H;go_enter Tryz.func94,Tryz.ntmps94
  go_wp2
  go_ret;exact⟨zz4,zz7⟩
end Go.Proofs.YtnilblnhlpnpgaaGreatDoor.GFnTwice
