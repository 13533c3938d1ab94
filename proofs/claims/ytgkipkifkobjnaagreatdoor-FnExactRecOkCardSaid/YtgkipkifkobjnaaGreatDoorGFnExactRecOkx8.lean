-- Printed by gen.py and its programs for this claim.
import Derived.Test.YtgkipkifkobjnaaGreatDoorGFnExactRecOkx0
import Derived.Test.YtgkipkifkobjnaaGreatDoorGFnExactRecOkx5
import Derived.Test.YtgkipkifkobjnaaGreatDoorGFnExactRecOkx6
import Derived.Test.YtgkipkifkobjnaaGreatDoorGFnExactRecOkx7
import Derived.Test.YtgkipkifkobjnaaGreatDoorZFnExactRecOk
namespace Go.Proofs.YtgkipkifkobjnaaGreatDoor.GFnExactRecOk
open Go.RowKit Go.Proofs.YtgkipkifkobjnaaGreatDoorW.PrintWords Go.Proofs.YtgkipkifkobjnaaGreatDoorW.PrintLast Go.Proofs.YtgkipkifkobjnaaGreatDoorW.PrintMore Go.Proofs.YtgkipkifkobjnaaGreatDoorW.Zs
set_option maxHeartbeats 40000000
set_option maxRecDepth 100000
attribute [local go_sem] max2_int min2_int max_two min_two max_three min_three max_four min_four
set_option linter.unusedVariables false
set_option linter.unusedSimpArgs false
def spec_UrlText.f (k:Nat) (a0_0:ByteArray) (a0_1:Int) (a0_2 a0_3:ByteArray) (a0_4:Bool):Option (ByteArray):=(spec_UrlOk.f k a0_0 a0_1 a0_2 a0_3 a0_4).bind fun t200=>(if t200=true then((spec_l7text.f k a0_0 a0_1 a0_2 a0_3 a0_4).bind fun t201=>(some t201))else(some (⟨#[]⟩:ByteArray)))
theorem spec_UrlText.calls (k:Nat) (a0_0:ByteArray) (a0_1:Int) (a0_2 a0_3:ByteArray) (a0_4:Bool) (r:ByteArray) (w:World) (h:spec_UrlText.f k a0_0 a0_1 a0_2 a0_3 a0_4=some r):
  Calls Tryz.prog 32 #[.agg #[.string a0_0,.int .i64 a0_1,.string a0_2,.string a0_3,.bool a0_4]] w fun e w'=>e= .returned (.string r)∧Below w.heap.size w w':=by
 have hu41:=Tryz.underlying41;have HB:=Aside0.mk (Below.refl w.heap.size w);have H:((spec_UrlOk.f k a0_0 a0_1 a0_2 a0_3 a0_4).bind fun t200=>(if t200=true then((spec_l7text.f k a0_0 a0_1 a0_2 a0_3 a0_4).bind fun t201=>(some t201))else(some (⟨#[]⟩:ByteArray))))=some r:=h;clear h;replace H:=Option.bind_eq_some_iff.mp H;obtain⟨t200,A20,H⟩:=H;(try dsimp only at H);have A2:=Aside0.mk A20;clear A20;have HC3:=Aside0.mk H;clear H;go_enter Tryz.func32,Tryz.ntmps32
 go_upto_if 5 with(first|((with_reducible refine gate_dst (N:=1) rfl ?_);refine boxP_ (N:=1) (cs:= #[.string a0_0,.int .i64 a0_1,.string a0_2,.string a0_3,.bool a0_4]) (t:=41) ?_;intro gb199 hg w4 hbox hb;have BK199:=Aside0.mk (hbox);have GE199:=geb_ (w:=w) hg zz0;replace HB:=Aside0.mk (below_step zz0 hb);clear hb hbox hg;obtain⟨_,_,_,_,_,_,_,_,_,_⟩:=cells5_ BK199.out)|((with_reducible refine gate_callee (f:=51) rfl ?_);refine goesR_ 4 Tryz.func51 #[.agg #[.string a0_0,.int .i64 a0_1,.string a0_2,.string a0_3,.bool a0_4]] (spec_UrlOk.calls k a0_0 a0_1 a0_2 a0_3 a0_4 t200 _ A2.out) ?_;rintro w6 hb;replace BK199:=Aside0.mk (blk_below (by(with_reducible repeat(first|refine blk_drewN ?_ _|refine blk_drew ?_|refine blk_alloc ?_ _));exact BK199.out) hb);replace HB:=Aside0.mk (below_step zz57 hb);(try clear hb)))
 (try simp only[Act.put,List.setIfInBounds_toArray,List.set_cons_zero,List.set_cons_succ]);have H:=HC3.out;clear HC3
 by_cases c7:t200=true
 ·subst c7;rw[if_pos rfl]at H;replace H:=Option.bind_eq_some_iff.mp H;obtain⟨t201,A80,H⟩:=H;(try dsimp only at H);have A8:=Aside0.mk A80;clear A80;obtain rfl:=Option.some.inj H;obtain⟨_,_,_,_,_,_,_,_,_,_⟩:=cells5_ BK199.out;go_wp2_with (first|((with_reducible refine gate_callee (f:=52) rfl ?_);refine goesR_ 7 Tryz.func52 #[.agg #[.string a0_0,.int .i64 a0_1,.string a0_2,.string a0_3,.bool a0_4]] (spec_l7text.calls k a0_0 a0_1 a0_2 a0_3 a0_4 t201 _ A8.out) ?_;rintro w10 hb;replace BK199:=Aside0.mk (blk_below (by(with_reducible repeat(first|refine blk_drewN ?_ _|refine blk_drew ?_|refine blk_alloc ?_ _));exact BK199.out) hb);replace HB:=Aside0.mk (below_step zz57 hb);(try clear hb)))
  go_ret;exact⟨zz2,zz57⟩
 ·replace c7:=Bool.eq_false_iff.mpr c7;subst c7;rw[if_neg Bool.false_ne_true]at H;obtain rfl:=Option.some.inj H;go_wp2
  go_ret;exact⟨zz2,zz57⟩
def spec_Canon.f (k:Nat) (a0:ByteArray):Option (ByteArray×Bool):=(spec_ReadUrl.f k a0).bind fun bt202=>(if bt202.2.2.2.2.2=true then((spec_UrlText.f k bt202.1 bt202.2.1 bt202.2.2.1 bt202.2.2.2.1 bt202.2.2.2.2.1).bind fun t209=>(some (t209,true)))else(some ((⟨#[]⟩:ByteArray),false)))
theorem spec_Canon.calls (k:Nat) (a0 r1:ByteArray) (r2:Bool) (w:World) (h:spec_Canon.f k a0=some (r1,r2)):
  Calls Tryz.prog 20 #[.string a0] w fun e w'=>e= .returned (.tuple #[.string r1,.bool r2])∧Below w.heap.size w w':=by
 have hu41:=Tryz.underlying41;have HB:=Aside0.mk (Below.refl w.heap.size w);have H:((spec_ReadUrl.f k a0).bind fun bt202=>(if bt202.2.2.2.2.2=true then((spec_UrlText.f k bt202.1 bt202.2.1 bt202.2.2.1 bt202.2.2.2.1 bt202.2.2.2.2.1).bind fun t209=>(some (t209,true)))else(some ((⟨#[]⟩:ByteArray),false))))=some (r1,r2):=h;clear h;replace H:=Option.bind_eq_some_iff.mp H;obtain⟨⟨t202,t203,t204,t205,t206,t207⟩,A20,H⟩:=H;(try dsimp only at H);have A2:=Aside0.mk A20;clear A20;have HC3:=Aside0.mk H;clear H;go_enter Tryz.func20,Tryz.ntmps20
 go_upto_if 12 with(first|((with_reducible refine gate_callee (f:=31) rfl ?_);refine goesR_ 8 Tryz.func31 #[.string a0] (spec_ReadUrl.calls k a0 t202 t203 t204 t205 t206 t207 _ A2.out) ?_;rintro w4 hb;replace HB:=Aside0.mk (below_step zz0 hb);(try clear hb))|((with_reducible refine gate_dst (N:=4) rfl ?_);refine boxP_ (N:=4) (cs:= #[.string (⟨#[]⟩:ByteArray),.int .i64 0,.string (⟨#[]⟩:ByteArray),.string (⟨#[]⟩:ByteArray),.bool false]) (t:=41) ?_;intro gb208 hg w5 hbox hb;have BK208:=Aside0.mk (hbox);have GE208:=geb_ (w:=w) hg zz0;replace HB:=Aside0.mk (below_step zz0 hb);clear hb hbox hg;obtain⟨_,_,_,_,_,_,_,_,_,_⟩:=cells5_ BK208.out))
 (try simp only[Act.put,List.setIfInBounds_toArray,List.set_cons_zero,List.set_cons_succ]);have H:=HC3.out;clear HC3
 by_cases c7:t207=true
 ·subst c7;rw[if_pos rfl]at H;replace H:=Option.bind_eq_some_iff.mp H;obtain⟨t209,A80,H⟩:=H;(try dsimp only at H);have A8:=Aside0.mk A80;clear A80;simp only[Option.some.injEq,Prod.mk.injEq]at H;obtain⟨rfl,rfl⟩:=H;obtain⟨_,_,_,_,_,_,_,_,_,_⟩:=cells5_ BK208.out;go_wp2_with (first|((with_reducible refine gate_callee (f:=32) rfl ?_);refine goesR_ 14 Tryz.func32 #[.agg #[.string t202,.int .i64 t203,.string t204,.string t205,.bool t206]] (spec_UrlText.calls k t202 t203 t204 t205 t206 t209 _ A8.out) ?_;rintro w10 hb;replace BK208:=Aside0.mk (blk_below (g:=gb208) (o:= .cells #[.string t202,.int .i64 t203,.string t204,.string t205,.bool t206] 41 (0,0)) (by(with_reducible repeat(first|refine blk_drewN ?_ _|refine blk_drew ?_|refine blk_alloc ?_ _));refine blk_put (cs:= #[.string t202,.int .i64 t203,.string t204,.string t205,.bool false]) ?_ 4 _ rfl;(with_reducible repeat(first|refine blk_drewN ?_ _|refine blk_drew ?_|refine blk_alloc ?_ _));refine blk_put (cs:= #[.string t202,.int .i64 t203,.string t204,.string (⟨#[]⟩:ByteArray),.bool false]) ?_ 3 _ rfl;(with_reducible repeat(first|refine blk_drewN ?_ _|refine blk_drew ?_|refine blk_alloc ?_ _));refine blk_put (cs:= #[.string t202,.int .i64 t203,.string (⟨#[]⟩:ByteArray),.string (⟨#[]⟩:ByteArray),.bool false]) ?_ 2 _ rfl;(with_reducible repeat(first|refine blk_drewN ?_ _|refine blk_drew ?_|refine blk_alloc ?_ _));refine blk_put (cs:= #[.string t202,.int .i64 0,.string (⟨#[]⟩:ByteArray),.string (⟨#[]⟩:ByteArray),.bool false]) ?_ 1 _ rfl;(with_reducible repeat(first|refine blk_drewN ?_ _|refine blk_drew ?_|refine blk_alloc ?_ _));refine blk_put (cs:= #[.string (⟨#[]⟩:ByteArray),.int .i64 0,.string (⟨#[]⟩:ByteArray),.string (⟨#[]⟩:ByteArray),.bool false]) ?_ 0 _ rfl;(with_reducible repeat(first|refine blk_drewN ?_ _|refine blk_drew ?_|refine blk_alloc ?_ _));exact BK208.out) hb);replace HB:=Aside0.mk (below_step zz69 hb);(try clear hb)))
  go_ret2
  exact⟨zz2,zz69⟩
 ·replace c7:=Bool.eq_false_iff.mpr c7;subst c7;rw[if_neg Bool.false_ne_true]at H;simp only[Option.some.injEq,Prod.mk.injEq]at H;obtain⟨rfl,rfl⟩:=H;go_wp2
  go_ret2
  exact⟨zz2,zz69⟩
def spec_l8canon.f (k:Nat) (a0:ByteArray):Option (Bool):=(spec_Canon.f k a0).bind fun bt210=>(if bt210.2=true then(some (bt210.1.toList==a0.toList))else(some false))
theorem spec_l8canon.calls (k:Nat) (a0:ByteArray) (r:Bool) (w:World) (h:spec_l8canon.f k a0=some r):
  Calls Tryz.prog 9 #[.string a0] w fun e w'=>e= .returned (.bool r)∧Below w.heap.size w w':=by
 have HB:=Aside0.mk (Below.refl w.heap.size w);have H:((spec_Canon.f k a0).bind fun bt210=>(if bt210.2=true then(some (bt210.1.toList==a0.toList))else(some false)))=some r:=h;clear h;replace H:=Option.bind_eq_some_iff.mp H;obtain⟨⟨t210,t211⟩,A20,H⟩:=H;(try dsimp only at H);have A2:=Aside0.mk A20;clear A20;have HC3:=Aside0.mk H;clear H;go_enter Tryz.func9,Tryz.ntmps9
 repeat' (first|(go_big_may;(first|((with_reducible refine gate_callee (f:=20) rfl ?_);refine goesR_ 7 Tryz.func20 #[.string a0] (spec_Canon.calls k a0 t210 t211 _ A2.out) ?_;rintro w4 hb;replace HB:=Aside0.mk (below_step zz0 hb);(try clear hb))))|go_values|go_skip|go_big_skip|go_big_want|((first|(with_reducible refine gate_nog rfl ?_)|(fail_if_success with_reducible refine gate_any ?_));go_step)|go_upon|simp only[Bool.not_true,Bool.not_false,Bool.true_and,Bool.false_and,Bool.true_or,Bool.false_or]|dsimp only)
 (try simp only[Act.put,List.setIfInBounds_toArray,List.set_cons_zero,List.set_cons_succ]);have H:=HC3.out;clear HC3
 by_cases c5:t211=true
 ·subst c5;rw[if_pos rfl]at H;obtain rfl:=Option.some.inj H;go_wp2
  go_ret;exact⟨zz2,zz0⟩
 ·replace c5:=Bool.eq_false_iff.mpr c5;subst c5;rw[if_neg Bool.false_ne_true]at H;obtain rfl:=Option.some.inj H;go_wp2
  go_ret;exact⟨zz2,zz0⟩
def spec_l8split.l0:Nat→ByteArray→Int→Option (Int)
 |0,_,_=>none
 |k+1,x0,x3=>if(wrap64 (x3+4))≤(x0.size:Int)then(if 0≤x3 then(if x3<(x0.size:Int)then(if(bt x0 x3)=13 then(if x3≤(wrap64 (x3+4))then(if(x0.extract (x3:Int).toNat ((wrap64 (x3+4)):Int).toNat).toList=([13,10,13,10]:List UInt8)then(some (wrap64 (x3+4)))else(spec_l8split.l0 k x0 (wrap64 (x3+1))))else(none))else(spec_l8split.l0 k x0 (wrap64 (x3+1))))else(none))else(none))else(some (-1))
def spec_l8split.f (k:Nat) (a0:ByteArray):Option (Int):=spec_l8split.l0 k a0 0
theorem spec_l8split.calls (k:Nat) (a0:ByteArray) (r:Int) (w:World) (h:spec_l8split.f k a0=some r):
  Calls Tryz.prog 21 #[.string a0] w fun e w'=>e= .returned (.int .i64 r)∧Drawn0 w w':=by
 have H:(spec_l8split.l0 k a0 0)=some r:=h;clear h;have H':=Aside0.mk H;clear H;go_enter Tryz.func21,Tryz.ntmps21
 go_wp2
 go_loopg [3] k (fun kq v3 w'=> ∃(x3_1:Int),v3= .int .i64 x3_1∧Aside0 (spec_l8split.l0 kq a0 x3_1=some r)∧Aside0 (kq≤k)∧Drawn0 w w')
 case atStart=>exact⟨(0),zz1,H',⟨Nat.le_refl _⟩,zz4⟩
 case round=>
  clear H';obtain⟨x3_1,rfl,HA,HK1,⟨m1,rfl⟩⟩:=hrel
  cases gk with
  |zero=>exact absurd HA.out (by simp[spec_l8split.l0])
  |succ k1=>
   have H:=HA.out;clear HA;simp only[spec_l8split.l0]at H
   by_cases c2:(wrap64 (x3_1+4))≤(a0.size:Int)
   ·rw[if_pos c2]at H;have c2b0:decide ((wrap64 (x3_1+4))≤(a0.size:Int))=true:=decide_eq_true c2;clear c2
    by_cases c3:0≤x3_1
    ·rw[if_pos c3]at H;have c3b0:decide (0≤x3_1)=true:=decide_eq_true c3;clear c3
     by_cases c4:x3_1<(a0.size:Int)
     ·rw[if_pos c4]at H;have c4b0:decide (x3_1<(a0.size:Int))=true:=decide_eq_true c4;clear c4;have HC6:=Aside0.mk H;clear H;have p5:0≤(x3_1:Int):=of_decide_eq_true zz3;have q5:x3_1<(a0.size:Int):=of_decide_eq_true zz3;have hx5:=bt_at a0 x3_1;replace p5:=eq_true p5;replace q5:=eq_true q5
      repeat' (first|(go_big_may;(fail))|go_values|go_skip|go_big_skip|go_big_want|((first|(with_reducible refine gate_nog rfl ?_)|(fail_if_success with_reducible refine gate_any ?_));go_step)|go_upon|simp only[Bool.not_true,Bool.not_false,Bool.true_and,Bool.false_and,Bool.true_or,Bool.false_or]|dsimp only)
      have H:=HC6.out;clear HC6
      by_cases c7:(bt a0 x3_1)=13
      ·rw[if_pos c7]at H;have c7b0:((bt a0 x3_1)==13)=true:=beq_iff_eq.mpr c7;have c7b1:((bt a0 x3_1)!=13)=false:=bne_eq_false_iff_eq.mpr c7;clear c7;(first|rw[c7b0]|(simp only[i64_w,i32_w];rw[c7b0])|rw[c7b1]|(rw[c7b2];simp only[Bool.not_true,Bool.not_false])|skip);have c8b0:=eq_true (of_decide_eq_true zz3:0≤x3_1)
       by_cases c9:x3_1≤(wrap64 (x3_1+4))
       ·rw[if_pos c9]at H;have c9b0:=eq_true c9;have c9b1:decide (x3_1≤(wrap64 (x3_1+4)))=true:=decide_eq_true c9;have c10b0:=eq_true (of_decide_eq_true zz3:(wrap64 (x3_1+4))≤(a0.size:Int))
        by_cases c11:(a0.extract (x3_1:Int).toNat ((wrap64 (x3_1+4)):Int).toNat).toList=([13,10,13,10]:List UInt8)
        ·rw[if_pos c11]at H;have c11b0:((a0.extract (x3_1:Int).toNat ((wrap64 (x3_1+4)):Int).toNat).toList==([13,10,13,10]:List UInt8))=true:=beq_iff_eq.mpr c11;have c11b1:((a0.extract (x3_1:Int).toNat ((wrap64 (x3_1+4)):Int).toNat).toList !=([13,10,13,10]:List UInt8))=false:=bne_eq_false_iff_eq.mpr c11;clear c11;obtain rfl:=Option.some.inj H;go_wp2
         go_ret;exact⟨zz1,zz4⟩
        ·rw[if_neg c11]at H;have c11b0:((a0.extract (x3_1:Int).toNat ((wrap64 (x3_1+4)):Int).toNat).toList==([13,10,13,10]:List UInt8))=false:=beq_eq_false_iff_ne.mpr c11;have c11b1:((a0.extract (x3_1:Int).toNat ((wrap64 (x3_1+4)):Int).toNat).toList !=([13,10,13,10]:List UInt8))=true:=bne_iff_ne.mpr c11;have H':=Aside0.mk H;clear H;go_wp2
         go_roundg k1
         (case measure=>have:=HK1.out;omega);case rel=>exact⟨(wrap64 (x3_1+1)),zz1,H',⟨zz60⟩,zz4⟩
       ·rw[if_neg c9]at H;exact absurd H (by simp)
      ·rw[if_neg c7]at H;have c7b0:((bt a0 x3_1)==13)=false:=beq_eq_false_iff_ne.mpr c7;have c7b1:((bt a0 x3_1)!=13)=true:=bne_iff_ne.mpr c7;(first|rw[c7b0]|(simp only[i64_w,i32_w];rw[c7b0])|rw[c7b1]|(rw[c7b2];simp only[Bool.not_true,Bool.not_false])|skip);have H':=Aside0.mk H;clear H;go_wp2
       go_roundg k1
       (case measure=>have:=HK1.out;omega);case rel=>exact⟨(wrap64 (x3_1+1)),zz1,H',⟨zz60⟩,zz4⟩
     ·rw[if_neg c4]at H;exact absurd H (by simp)
    ·rw[if_neg c3]at H;exact absurd H (by simp)
   ·rw[if_neg c2]at H;have c2b0:decide ((wrap64 (x3_1+4))≤(a0.size:Int))=false:=decide_eq_false c2;clear c2;obtain rfl:=Option.some.inj H;go_wp2
    go_ret;exact⟨zz1,zz4⟩
def spec_Payload.f (k:Nat) (a0:ByteArray):Option (ByteArray×Bool):=(spec_l8split.f k a0).bind fun t212=>(if t212<0 then(some ((⟨#[]⟩:ByteArray),false))else(if 0≤t212 then(if t212≤(a0.size:Int)then(some (a0.extract (t212:Int).toNat a0.size,true))else(none))else(none)))
theorem spec_Payload.calls (k:Nat) (a0 r1:ByteArray) (r2:Bool) (w:World) (h:spec_Payload.f k a0=some (r1,r2)):
  Calls Tryz.prog 10 #[.string a0] w fun e w'=>e= .returned (.tuple #[.string r1,.bool r2])∧Drawn0 w w':=by
 have H:((spec_l8split.f k a0).bind fun t212=>(if t212<0 then(some ((⟨#[]⟩:ByteArray),false))else(if 0≤t212 then(if t212≤(a0.size:Int)then(some (a0.extract (t212:Int).toNat a0.size,true))else(none))else(none))))=some (r1,r2):=h;clear h;replace H:=Option.bind_eq_some_iff.mp H;obtain⟨t212,A20,H⟩:=H;(try dsimp only at H);have A2:=Aside0.mk A20;clear A20;have HC3:=Aside0.mk H;clear H;go_enter Tryz.func10,Tryz.ntmps10
 go_upto_if 8 with(first|((with_reducible refine gate_callee (f:=21) rfl ?_);refine goesR_ 6 Tryz.func21 #[.string a0] (spec_l8split.calls k a0 t212 _ A2.out) ?_;rintro w' ⟨nd,rfl⟩))
 (try simp only[Act.put,List.setIfInBounds_toArray,List.set_cons_zero,List.set_cons_succ]);have H:=HC3.out;clear HC3
 by_cases c4:t212<0
 ·rw[if_pos c4]at H;have c4b0:decide (t212<0)=true:=decide_eq_true c4;clear c4;(first|rw[c4b0]|(simp only[i64_w,i32_w];rw[c4b0])|skip);simp only[Option.some.injEq,Prod.mk.injEq]at H;obtain⟨rfl,rfl⟩:=H;go_wp2
  go_ret2
  exact⟨zz1,zz4⟩
 ·rw[if_neg c4]at H;have c4b0:decide (t212<0)=false:=decide_eq_false c4;clear c4;(first|rw[c4b0]|(simp only[i64_w,i32_w];rw[c4b0])|skip)
  by_cases c5:0≤t212
  ·rw[if_pos c5]at H;have c5b0:=eq_true c5;have c5b1:decide (0≤t212)=true:=decide_eq_true c5;clear c5
   by_cases c6:t212≤(a0.size:Int)
   ·rw[if_pos c6]at H;have c6b0:=eq_true c6;have c6b1:decide (t212≤(a0.size:Int))=true:=decide_eq_true c6;clear c6;simp only[Option.some.injEq,Prod.mk.injEq]at H;obtain⟨rfl,rfl⟩:=H;go_wp2
    go_ret2
    exact⟨zz1,zz4⟩
   ·rw[if_neg c6]at H;exact absurd H (by simp)
  ·rw[if_neg c5]at H;exact absurd H (by simp)
def spec_l1bit.f (a0:ByteArray) (a1:Int):Option (Int):=if(wrap64 (Int.tdiv a1 8))≥(a0.size:Int)then(some 0)else(if 0≤(wrap64 (Int.tdiv a1 8))then(if(wrap64 (Int.tdiv a1 8))<(a0.size:Int)then(if 0≤(wrap64 (7-(Int.tmod a1 8)))then(some (Go.bits .and .i64 (shr .i64 (wrap64 (bt a0 (wrap64 (Int.tdiv a1 8)))) (wrap64 (7-(Int.tmod a1 8)))) 1))else(none))else(none))else(none))
theorem spec_l1bit.calls (a0:ByteArray) (a1 r:Int) (w:World) (h:spec_l1bit.f a0 a1=some r):
  Calls Tryz.prog 33 #[.string a0,.int .i64 a1] w fun e w'=>e= .returned (.int .i64 r)∧Drawn0 w w':=by
 have H:(if(wrap64 (Int.tdiv a1 8))≥(a0.size:Int)then(some 0)else(if 0≤(wrap64 (Int.tdiv a1 8))then(if(wrap64 (Int.tdiv a1 8))<(a0.size:Int)then(if 0≤(wrap64 (7-(Int.tmod a1 8)))then(some (Go.bits .and .i64 (shr .i64 (wrap64 (bt a0 (wrap64 (Int.tdiv a1 8)))) (wrap64 (7-(Int.tmod a1 8)))) 1))else(none))else(none))else(none)))=some r:=h;clear h
 by_cases c3:(wrap64 (Int.tdiv a1 8))≥(a0.size:Int)
 ·rw[if_pos c3]at H;have c3b0:decide ((a0.size:Int)≤(wrap64 (Int.tdiv a1 8)))=true:=decide_eq_true c3;clear c3;obtain rfl:=Option.some.inj H;go_enter Tryz.func33,Tryz.ntmps33
  go_wp2
  go_ret;exact⟨zz1,zz4⟩
 ·rw[if_neg c3]at H;have c3b0:decide ((a0.size:Int)≤(wrap64 (Int.tdiv a1 8)))=false:=decide_eq_false c3;clear c3;obtain⟨ji4,hji4⟩: ∃j_:Int,(wrap64 (Int.tdiv a1 8))=j_:=⟨_,rfl⟩;replace H:(if 0≤(ji4)then(if(ji4)<(a0.size:Int)then(if 0≤(wrap64 (7-(Int.tmod a1 8)))then(some (Go.bits .and .i64 (shr .i64 (wrap64 (bt a0 (ji4))) (wrap64 (7-(Int.tmod a1 8)))) 1))else(none))else(none))else(none))=some r:=by first|(rw[hji4]at H;exact H)|(simp only[hji4]at H ⊢;exact H)
  (try rw[hji4]at c3b0);have hji4w:(IntKind.i64.wrap (Int.tdiv a1 8))=ji4:=(i64_w _).trans hji4
  by_cases c5:0≤(ji4)
  ·rw[if_pos c5]at H;have c5b0:decide (0≤(ji4))=true:=decide_eq_true c5;clear c5
   by_cases c6:(ji4)<(a0.size:Int)
   ·rw[if_pos c6]at H;have c6b0:decide ((ji4)<(a0.size:Int))=true:=decide_eq_true c6;clear c6;obtain⟨ji8,hji8⟩: ∃j_:Int,(wrap64 (7-(Int.tmod a1 8)))=j_:=⟨_,rfl⟩;replace H:(if 0≤(ji8)then(some (Go.bits .and .i64 (shr .i64 (wrap64 (bt a0 (ji4))) (ji8)) 1))else(none))=some r:=by first|(rw[hji8]at H;exact H)|(simp only[hji8]at H ⊢;exact H)
    have hji8w:(IntKind.i64.wrap (7-(Int.tmod a1 8)))=ji8:=(i64_w _).trans hji8
    by_cases c9:0≤(ji8)
    ·rw[if_pos c9]at H;have c9b0:=eq_true c9;have c9b1:decide (0≤(ji8))=true:=decide_eq_true c9;clear c9;obtain⟨ji10,hji10⟩: ∃j_:Int,(shr .i64 (wrap64 (bt a0 (ji4))) (ji8))=j_:=⟨_,rfl⟩;replace H:(some (Go.bits .and .i64 (ji10) 1))=some r:=by first|(rw[hji10]at H;exact H)|(simp only[hji10]at H ⊢;exact H)
     have hji10_:((wrap64 (bt a0 (ji4)))/2^min (ji8).toNat 64)=ji10:=hji10;have hji10z:(ji8)≤64→((wrap64 (bt a0 (ji4)))/2^(ji8).toNat)=ji10:=shr_small hji10;obtain rfl:=Option.some.inj H;have p7:0≤((ji4):Int):=of_decide_eq_true zz3;have q7:(ji4)<(a0.size:Int):=of_decide_eq_true zz3;have hx7:=bt_at a0 (ji4);replace p7:=eq_true p7;replace q7:=eq_true q7;go_enter Tryz.func33,Tryz.ntmps33
     go_wp2
     go_ret;exact⟨by first|rfl|(simp;done)|(simp only[←hji4,←hji8,←hji10]<;>(first|rfl|simp))|(simp[*];done),zz4⟩
    ·rw[if_neg c9]at H;exact absurd H (by simp)
   ·rw[if_neg c6]at H;exact absurd H (by simp)
  ·rw[if_neg c5]at H;exact absurd H (by simp)
mutual
def spec_Base32.l0:Nat→ByteArray→List Int→Int→Option (ByteArray)
 |0,_,_,_=>none
 |k+1,x0,x3,x4=>if x4<(wrap64 (8*(x0.size:Int)))then(spec_Base32.l1 k x0 x3 x4 0 0)else(some (strOfNums x3))
def spec_Base32.l1:Nat→ByteArray→List Int→Int→Int→Int→Option (ByteArray)
 |0,_,_,_,_,_=>none
 |k+1,x0,x3,x4,x5,x6=>if x6<5 then((spec_l1bit.f x0 (wrap64 (x4+x6))).bind fun t213=>(spec_Base32.l1 k x0 x3 x4 (wrap64 ((wrap64 (2*x5))+t213)) (wrap64 (x6+1))))else(if 0≤x5 then(if x5<32 then(if x3.length<140737488355328 then(spec_Base32.l0 k x0 (x3++ [bt (⟨#[65,66,67,68,69,70,71,72,73,74,75,76,77,78,79,80,81,82,83,84,85,86,87,88,89,90,50,51,52,53,54,55]⟩:ByteArray) x5]) (wrap64 (x4+5)))else(none))else(none))else(none))
end
def spec_Base32.f (k:Nat) (a0:ByteArray):Option (ByteArray):=if(a0.size:Int)>4000 then(some (⟨#[]⟩:ByteArray))else(spec_Base32.l0 k a0 ([]:List Int) 0)
theorem spec_Base32.calls (k:Nat) (a0 r:ByteArray) (w:World) (h:spec_Base32.f k a0=some r):
  Calls Tryz.prog 22 #[.string a0] w fun e w'=>e= .returned (.string r)∧Below w.heap.size w w':=by
 have HB:=Aside0.mk (Below.refl w.heap.size w);have H:(if(a0.size:Int)>4000 then(some (⟨#[]⟩:ByteArray))else(spec_Base32.l0 k a0 ([]:List Int) 0))=some r:=h;clear h
 by_cases c2:(a0.size:Int)>4000
 ·rw[if_pos c2]at H;have c2b0:decide (4000<(a0.size:Int))=true:=decide_eq_true c2;have c2b1:decide (4000<a0.size)=true:=decide_eq_true (by omega);clear c2;obtain rfl:=Option.some.inj H;go_enter Tryz.func22,Tryz.ntmps22
  go_wp2
  go_ret;exact⟨zz2,zz0⟩
 ·rw[if_neg c2]at H;have c2b0:decide (4000<(a0.size:Int))=false:=decide_eq_false c2;have c2b1:decide (4000<a0.size)=false:=decide_eq_false (by omega);clear c2;have H':=Aside0.mk H;clear H;go_enter Tryz.func22,Tryz.ntmps22
  go_wp2
  go_loopg [3,4] k (fun kq v3 v4 w'=> ∃(x3_1:List Int) (x4_1:Int),v4= .int .i64 x4_1∧Aside0 (spec_Base32.l0 kq a0 x3_1 x4_1=some r)∧Aside0 (kq≤k)∧Aside0 (Kd.R (Kd.int .u8) 5 w' w.heap.size (fun _=>True) v3 x3_1)∧Aside0 (Below w.heap.size w w'))
  case atStart=>exact⟨(([]:List Int)),(0),zz1,H',⟨Nat.le_refl _⟩,⟨zz21⟩,⟨zz0⟩⟩
  case round=>
   clear H';(try clear c2);(try clear c2b0);(try clear c2b1);(try clear p2);obtain⟨x3_1,x4_1,rfl,HA,HK1,HO_3,HB⟩:=hrel
   cases gk with
   |zero=>exact absurd HA.out (by simp[spec_Base32.l0])
   |succ k1=>
    have H:=HA.out;clear HA;simp only[spec_Base32.l0]at H
    by_cases c3:x4_1<(wrap64 (8*(a0.size:Int)))
    ·rw[if_pos c3]at H;have c3b0:decide (x4_1<(wrap64 (8*(a0.size:Int))))=true:=decide_eq_true c3;clear c3;have H':=Aside0.mk H;clear H;go_wp2
     go_loopg [5,6] k1 (fun kq v5 v6 w'=> ∃(x5_2 x6_2:Int),v5= .int .i64 x5_2∧v6= .int .i64 x6_2∧Aside0 (spec_Base32.l1 kq a0 x3_1 x4_1 x5_2 x6_2=some r)∧Aside0 (kq≤k1)∧Aside0 (Kd.R (Kd.int .u8) 5 w' w.heap.size (fun _=>True) u3 x3_1)∧Aside0 (Below w.heap.size w w'))
     case atStart=>exact⟨(0),(0),zz1,zz1,H',⟨Nat.le_refl _⟩,⟨zz6⟩,⟨zz0⟩⟩
     case round=>
      clear H';(try clear c2);(try clear c2b0);(try clear c2b1);(try clear p2);(try clear c3);(try clear c3b0);(try clear p2);obtain⟨x5_2,x6_2,rfl,rfl,HA,HK2,HO_3,HB⟩:=hrel
      cases gk with
      |zero=>exact absurd HA.out (by simp[spec_Base32.l1])
      |succ k2=>
       have H:=HA.out;clear HA;simp only[spec_Base32.l1]at H
       by_cases c4:x6_2<5
       ·rw[if_pos c4]at H;have c4b0:decide (x6_2<5)=true:=decide_eq_true c4;clear c4;replace H:=Option.bind_eq_some_iff.mp H;obtain⟨t213,A50,H⟩:=H;(try dsimp only at H);have A5:=Aside0.mk A50;clear A50;have H':=Aside0.mk H;clear H;go_wp2_with (first|((with_reducible refine gate_callee (f:=33) rfl ?_);refine goesR_ 27 Tryz.func33 #[.string a0,.int .i64 (wrap64 (x4_1+x6_2))] (spec_l1bit.calls a0 (wrap64 (x4_1+x6_2)) t213 _ A5.out) ?_;rintro w' ⟨nd,rfl⟩))
        go_roundg k2
        (case measure=>have:=HK1.out;have:=HK2.out;omega);case rel=>exact⟨(wrap64 ((wrap64 (2*x5_2))+t213)),(wrap64 (x6_2+1)),zz1,zz1,H',⟨zz65⟩,⟨zz6⟩,⟨zz0⟩⟩
       ·rw[if_neg c4]at H;have c4b0:decide (x6_2<5)=false:=decide_eq_false c4;clear c4
        by_cases c6:0≤x5_2
        ·rw[if_pos c6]at H;have c6b0:decide (0≤x5_2)=true:=decide_eq_true c6;clear c6
         by_cases c7:x5_2<32
         ·rw[if_pos c7]at H;have c7b0:decide (x5_2<32)=true:=decide_eq_true c7;clear c7
          by_cases c9:x3_1.length<140737488355328
          ·rw[if_pos c9]at H;have LMc9:=Aside0.mk c9;clear c9;obtain⟨y214,hy214⟩: ∃y_:List Int,y_=(x3_1++ [bt (⟨#[65,66,67,68,69,70,71,72,73,74,75,76,77,78,79,80,81,82,83,84,85,86,87,88,89,90,50,51,52,53,54,55]⟩:ByteArray) x5_2]):=⟨_,rfl⟩;replace H:(spec_Base32.l0 k2 a0 y214 (wrap64 (x4_1+5)))=some r:=by first|(rw[hy214];with_reducible exact H)|(have H2_:=(Option.bind_some _ _).symm.trans H;rw[hy214];with_reducible exact H2_)|(have H2_:=(Option.bind_some _ _).symm.trans H;with_reducible exact H2_)|with_reducible exact H|(rw[hy214];exact H)|exact H
           have Ny214:=Aside0.mk hy214;clear hy214;have H':=Aside0.mk H;clear H;have p8:0≤(x5_2:Int):=of_decide_eq_true zz3;have q8:x5_2<(32:Int):=of_decide_eq_true zz3;have hx8:=bt_at (⟨#[65,66,67,68,69,70,71,72,73,74,75,76,77,78,79,80,81,82,83,84,85,86,87,88,89,90,50,51,52,53,54,55]⟩:ByteArray) x5_2;replace p8:=eq_true p8;replace q8:=eq_true q8;go_wp2_with (first|((with_reducible refine gate_builtin (b:= .append) (xs:= #[.tmp 29,.tmp 32]) rfl ?_);at_builtin;refine Kd.R_append (Kd.int .u8) (w0:=w) w.heap.size rfl (.tmp 29) (.tmp 32) 45 5 (.int .u8 0) 1 rfl Tryz.underlying45 info5 rfl (by decide) (by omega) u3 x3_1 (bt (⟨#[65,66,67,68,69,70,71,72,73,74,75,76,77,78,79,80,81,82,83,84,85,86,87,88,89,90,50,51,52,53,54,55]⟩:ByteArray) x5_2) [.int .u8 (bt (⟨#[65,66,67,68,69,70,71,72,73,74,75,76,77,78,79,80,81,82,83,84,85,86,87,88,89,90,50,51,52,53,54,55]⟩:ByteArray) x5_2)] (fun _=>True) (fun _=>False) rfl rfl ?aP (fun _ hk=>hk.elim) ?aF ?aO ?aB ?aS ?aL ?_;(case aP=>exact rfl);(case aB=>exact zz0);(case aF=>exact(fun _ _=>trivial));(case aO=>exact zz6);(case aS=>exact(below_size zz0));(case aL=>have:=LMc9.out;omega);intro v215 w10 ho hb hg hat;rw[←Ny214.out]at ho;replace HB:=Aside0.mk (hb);have HO216:=Aside0.mk (ho);clear HO_3;clear ho hb hg hat))
           go_roundg k2
           (case measure=>have:=HK1.out;have:=HK2.out;omega);case rel=>exact⟨(y214),(wrap64 (x4_1+5)),zz1,H',⟨zz65⟩,⟨by(with_reducible repeat(first|apply Kd.R_alloc|apply Kd.R_drewN|apply Kd.R_drew));exact HO216.out⟩,⟨zz0⟩⟩
          ·rw[if_neg c9]at H;exact absurd H (by simp)
         ·rw[if_neg c7]at H;exact absurd H (by simp)
        ·rw[if_neg c6]at H;exact absurd H (by simp)
    ·rw[if_neg c3]at H;have c3b0:decide (x4_1<(wrap64 (8*(a0.size:Int))))=false:=decide_eq_false c3;clear c3;obtain rfl:=Option.some.inj H;have hcv11:=own_string (P:=Tryz.prog) Tryz.underlying45 Tryz.underlying5 Tryz.underlying9 (Kd.own_of_R HO_3.out);go_wp2
     go_ret;exact⟨zz2,zz0⟩
def spec_l3word.f (a0:Int):Option (Bool):=if a0≥0 then(some (decide (a0≤4294967295)))else(some false)
theorem spec_l3word.calls (a0:Int) (r:Bool) (w:World) (h:spec_l3word.f a0=some r):
  Calls Tryz.prog 111 #[.int .i64 a0] w fun e w'=>e= .returned (.bool r)∧Drawn0 w w':=by
 have H:(if a0≥0 then(some (decide (a0≤4294967295)))else(some false))=some r:=h;clear h
 by_cases c2:a0≥0
 ·rw[if_pos c2]at H;have c2b0:decide (0≤a0)=true:=decide_eq_true c2;clear c2;obtain rfl:=Option.some.inj H;go_enter Tryz.func111,Tryz.ntmps111
  go_wp2
  go_ret;exact⟨zz1,zz4⟩
 ·rw[if_neg c2]at H;have c2b0:decide (0≤a0)=false:=decide_eq_false c2;clear c2;obtain rfl:=Option.some.inj H;go_enter Tryz.func111,Tryz.ntmps111
  go_wp2
  go_ret;exact⟨zz1,zz4⟩
def spec_l3words.l0:Nat→List Int→Int→Option (Bool)
 |0,_,_=>none
 |k+1,x0,x3=>if x3<5 then(if 0≤x3 then(if x3<(x0.length:Int)then((spec_l3word.f (rd x0 x3)).bind fun t218=>(if t218=true then(spec_l3words.l0 k x0 (wrap64 (x3+1)))else(some false)))else(none))else(none))else(some true)
def spec_l3words.f (k:Nat) (l0:List Int):Option (Bool):=if(l0.length:Int)=5 then(spec_l3words.l0 k l0 0)else(some false)
theorem spec_l3words.calls (k:Nat) (A0:Option Addr) (c0:Nat) (l0:List Int) (r:Bool) (w:World) (hr0:Kd.C (Kd.int .i64) w A0 l0.length l0) (hc0:l0.length≤c0) (h:spec_l3words.f k l0=some r):
  Calls Tryz.prog 83 #[.slice A0 l0.length c0] w fun e w'=>e= .returned (.bool r)∧Drawn0 w w':=by
 have HR0:=Aside0.mk hr0;have HC0:=Aside0.mk hc0;clear hr0 hc0;have H:(if(l0.length:Int)=5 then(spec_l3words.l0 k l0 0)else(some false))=some r:=h;clear h
 by_cases c2:(l0.length:Int)=5
 ·rw[if_pos c2]at H;have c2b0:((l0.length:Int)==5)=true:=beq_iff_eq.mpr c2;have c2b1:((l0.length:Int)!=5)=false:=bne_eq_false_iff_eq.mpr c2;clear c2;have H':=Aside0.mk H;clear H;go_enter Tryz.func83,Tryz.ntmps83
  go_wp2
  go_loopg [3] k (fun kq v3 w'=> ∃(x3_1:Int),v3= .int .i64 x3_1∧Aside0 (spec_l3words.l0 kq l0 x3_1=some r)∧Aside0 (kq≤k)∧Drawn0 w w')
  case atStart=>exact⟨(0),zz1,H',⟨Nat.le_refl _⟩,zz4⟩
  case round=>
   clear H';(try clear c2);(try clear c2b0);(try clear c2b1);(try clear p2);obtain⟨x3_1,rfl,HA,HK1,⟨m1,rfl⟩⟩:=hrel
   cases gk with
   |zero=>exact absurd HA.out (by simp[spec_l3words.l0])
   |succ k1=>
    have H:=HA.out;clear HA;simp only[spec_l3words.l0]at H
    by_cases c3:x3_1<5
    ·rw[if_pos c3]at H;have c3b0:decide (x3_1<5)=true:=decide_eq_true c3;clear c3
     by_cases c4:0≤x3_1
     ·rw[if_pos c4]at H;have c4b0:decide (0≤x3_1)=true:=decide_eq_true c4;clear c4
      by_cases c5:x3_1<(l0.length:Int)
      ·rw[if_pos c5]at H;have c5b0:decide (x3_1<(l0.length:Int))=true:=decide_eq_true c5;clear c5;replace H:=Option.bind_eq_some_iff.mp H;obtain⟨t218,A60,H⟩:=H;(try dsimp only at H);have A6:=Aside0.mk A60;clear A60;have HC7:=Aside0.mk H;clear H;have p217:0≤(x3_1:Int):=of_decide_eq_true zz3;have q217:x3_1<(l0.length:Int):=of_decide_eq_true zz3;obtain⟨ad217,e217,hx217_0⟩:=Kd.at_int HR0.out x3_1 p217 q217;cases e217;replace p217:=eq_true p217;replace q217:=eq_true q217;go_upto_if 16 with(first|((with_reducible refine gate_callee (f:=111) rfl ?_);refine goesR_ 15 Tryz.func111 #[.int .i64 (rd l0 x3_1)] (spec_l3word.calls (rd l0 x3_1) t218 _ A6.out) ?_;rintro w' ⟨nd,rfl⟩))
       (try simp only[Act.put,List.setIfInBounds_toArray,List.set_cons_zero,List.set_cons_succ]);have H:=HC7.out;clear HC7
       by_cases c8:t218=true
       ·subst c8;rw[if_pos rfl]at H;have H':=Aside0.mk H;clear H;go_wp2
        go_roundg k1
        (case measure=>have:=HK1.out;omega);case rel=>exact⟨(wrap64 (x3_1+1)),zz1,H',⟨zz60⟩,zz4⟩
       ·replace c8:=Bool.eq_false_iff.mpr c8;subst c8;rw[if_neg Bool.false_ne_true]at H;obtain rfl:=Option.some.inj H;go_wp2
        go_ret;exact⟨zz1,zz4⟩
      ·rw[if_neg c5]at H;exact absurd H (by simp)
     ·rw[if_neg c4]at H;exact absurd H (by simp)
    ·rw[if_neg c3]at H;have c3b0:decide (x3_1<5)=false:=decide_eq_false c3;clear c3;obtain rfl:=Option.some.inj H;go_wp2
     go_ret;exact⟨zz1,zz4⟩
 ·rw[if_neg c2]at H;have c2b0:((l0.length:Int)==5)=false:=beq_eq_false_iff_ne.mpr c2;have c2b1:((l0.length:Int)!=5)=true:=bne_iff_ne.mpr c2;obtain rfl:=Option.some.inj H;go_enter Tryz.func83,Tryz.ntmps83
  go_wp2
  go_ret;exact⟨zz1,zz4⟩
end Go.Proofs.YtgkipkifkobjnaaGreatDoor.GFnExactRecOk
