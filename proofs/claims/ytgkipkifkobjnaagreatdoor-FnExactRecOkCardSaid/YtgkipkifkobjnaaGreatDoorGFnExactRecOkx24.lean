-- Printed by gen.py and its programs for this claim.
import Derived.Test.YtgkipkifkobjnaaGreatDoorGFnExactRecOkx0
import Derived.Test.YtgkipkifkobjnaaGreatDoorGFnExactRecOkx17
import Derived.Test.YtgkipkifkobjnaaGreatDoorGFnExactRecOkx20
import Derived.Test.YtgkipkifkobjnaaGreatDoorGFnExactRecOkx23
import Derived.Test.YtgkipkifkobjnaaGreatDoorZFnExactRecOk
namespace Go.Proofs.YtgkipkifkobjnaaGreatDoor.GFnExactRecOk
open Go.RowKit Go.Proofs.YtgkipkifkobjnaaGreatDoorW.PrintWords Go.Proofs.YtgkipkifkobjnaaGreatDoorW.PrintLast Go.Proofs.YtgkipkifkobjnaaGreatDoorW.PrintMore Go.Proofs.YtgkipkifkobjnaaGreatDoorW.Zs
set_option maxHeartbeats 40000000
set_option maxRecDepth 100000
attribute [local go_sem] max2_int min2_int max_two min_two max_three min_three max_four min_four
set_option linter.unusedVariables false
set_option linter.unusedSimpArgs false
def impl_Canon.f (k:Nat) (a0:ByteArray):Option (ByteArray×Bool):=(impl_ReadUrl.f k a0).bind fun bt434=>(if bt434.2.2.2.2.2=true then((impl_urlText.f bt434.1 bt434.2.1 bt434.2.2.1 bt434.2.2.2.1 bt434.2.2.2.2.1).bind fun t441=>(some (t441,true)))else(some ((⟨#[]⟩:ByteArray),false)))
theorem impl_Canon.calls (k:Nat) (a0 r1:ByteArray) (r2:Bool) (w:World) (hG:Gl w) (h:impl_Canon.f k a0=some (r1,r2)):
  Calls Tryz.prog 25 #[.string a0] w fun e w'=>e= .returned (.tuple #[.string r1,.bool r2])∧Below w.heap.size w w':=by
 have hu41:=Tryz.underlying41;have HG:=Aside0.mk hG;clear hG;have HB:=Aside0.mk (Below.refl w.heap.size w);have H:((impl_ReadUrl.f k a0).bind fun bt434=>(if bt434.2.2.2.2.2=true then((impl_urlText.f bt434.1 bt434.2.1 bt434.2.2.1 bt434.2.2.2.1 bt434.2.2.2.2.1).bind fun t441=>(some (t441,true)))else(some ((⟨#[]⟩:ByteArray),false))))=some (r1,r2):=h;clear h;replace H:=Option.bind_eq_some_iff.mp H;obtain⟨⟨t434,t435,t436,t437,t438,t439⟩,A20,H⟩:=H;(try dsimp only at H);have A2:=Aside0.mk A20;clear A20;have HC3:=Aside0.mk H;clear H;go_enter Tryz.func25,Tryz.ntmps25
 go_upto_if 12 with(first|((with_reducible refine gate_callee (f:=38) rfl ?_);refine goesQ_ 8 Tryz.func38 #[.string a0] ?_;(with_reducible refine(impl_ReadUrl.calls k a0 t434 t435 t436 t437 t438 t439 _ ?side1 A2.out).mono ?_);(case side1=>exact Gl.below HG.out zz0);rintro e w4 ⟨rfl,hb⟩;refine⟨_,rfl,?_⟩;replace HB:=Aside0.mk (below_step zz0 hb);(try clear hb))|((with_reducible refine gate_dst (N:=4) rfl ?_);refine boxP_ (N:=4) (cs:= #[.string (⟨#[]⟩:ByteArray),.int .i64 0,.string (⟨#[]⟩:ByteArray),.string (⟨#[]⟩:ByteArray),.bool false]) (t:=41) ?_;intro gb440 hg w5 hbox hb;have BK440:=Aside0.mk (hbox);have GE440:=geb_ (w:=w) hg zz0;replace HB:=Aside0.mk (below_step zz0 hb);clear hb hbox hg;obtain⟨_,_,_,_,_,_,_,_,_,_⟩:=cells5_ BK440.out))
 (try simp only[Act.put,List.setIfInBounds_toArray,List.set_cons_zero,List.set_cons_succ]);have H:=HC3.out;clear HC3
 by_cases c7:t439=true
 ·subst c7;rw[if_pos rfl]at H;replace H:=Option.bind_eq_some_iff.mp H;obtain⟨t441,A80,H⟩:=H;(try dsimp only at H);have A8:=Aside0.mk A80;clear A80;simp only[Option.some.injEq,Prod.mk.injEq]at H;obtain⟨rfl,rfl⟩:=H;obtain⟨_,_,_,_,_,_,_,_,_,_⟩:=cells5_ BK440.out;go_wp2_with (first|((with_reducible refine gate_callee (f:=39) rfl ?_);refine goesQ_ 14 Tryz.func39 #[.agg #[.string t434,.int .i64 t435,.string t436,.string t437,.bool t438]] ?_;(with_reducible refine(impl_urlText.calls t434 t435 t436 t437 t438 t441 _ ?side1 A8.out).mono ?_);(case side1=>exact Gl.below HG.out zz54);rintro e w10 ⟨rfl,hb⟩;refine⟨_,rfl,?_⟩;replace BK440:=Aside0.mk (blk_below (g:=gb440) (o:= .cells #[.string t434,.int .i64 t435,.string t436,.string t437,.bool t438] 41 (0,0)) (by(with_reducible repeat(first|refine blk_drewN ?_ _|refine blk_drew ?_|refine blk_alloc ?_ _));refine blk_put (cs:= #[.string t434,.int .i64 t435,.string t436,.string t437,.bool false]) ?_ 4 _ rfl;(with_reducible repeat(first|refine blk_drewN ?_ _|refine blk_drew ?_|refine blk_alloc ?_ _));refine blk_put (cs:= #[.string t434,.int .i64 t435,.string t436,.string (⟨#[]⟩:ByteArray),.bool false]) ?_ 3 _ rfl;(with_reducible repeat(first|refine blk_drewN ?_ _|refine blk_drew ?_|refine blk_alloc ?_ _));refine blk_put (cs:= #[.string t434,.int .i64 t435,.string (⟨#[]⟩:ByteArray),.string (⟨#[]⟩:ByteArray),.bool false]) ?_ 2 _ rfl;(with_reducible repeat(first|refine blk_drewN ?_ _|refine blk_drew ?_|refine blk_alloc ?_ _));refine blk_put (cs:= #[.string t434,.int .i64 0,.string (⟨#[]⟩:ByteArray),.string (⟨#[]⟩:ByteArray),.bool false]) ?_ 1 _ rfl;(with_reducible repeat(first|refine blk_drewN ?_ _|refine blk_drew ?_|refine blk_alloc ?_ _));refine blk_put (cs:= #[.string (⟨#[]⟩:ByteArray),.int .i64 0,.string (⟨#[]⟩:ByteArray),.string (⟨#[]⟩:ByteArray),.bool false]) ?_ 0 _ rfl;(with_reducible repeat(first|refine blk_drewN ?_ _|refine blk_drew ?_|refine blk_alloc ?_ _));exact BK440.out) hb);replace HB:=Aside0.mk (below_step zz54 hb);(try clear hb)))
  go_ret2
  exact⟨zz2,zz54⟩
 ·replace c7:=Bool.eq_false_iff.mpr c7;subst c7;rw[if_neg Bool.false_ne_true]at H;simp only[Option.some.injEq,Prod.mk.injEq]at H;obtain⟨rfl,rfl⟩:=H;go_wp2
  go_ret2
  exact⟨zz2,zz54⟩
def impl_isCanonical.f (k:Nat) (a0:ByteArray):Option (Bool):=(impl_Canon.f k a0).bind fun bt442=>(if bt442.2=true then(some (bt442.1.toList==a0.toList))else(some false))
theorem impl_isCanonical.calls (k:Nat) (a0:ByteArray) (r:Bool) (w:World) (hG:Gl w) (h:impl_isCanonical.f k a0=some r):
  Calls Tryz.prog 16 #[.string a0] w fun e w'=>e= .returned (.bool r)∧Below w.heap.size w w':=by
 have HG:=Aside0.mk hG;clear hG;have HB:=Aside0.mk (Below.refl w.heap.size w);have H:((impl_Canon.f k a0).bind fun bt442=>(if bt442.2=true then(some (bt442.1.toList==a0.toList))else(some false)))=some r:=h;clear h;replace H:=Option.bind_eq_some_iff.mp H;obtain⟨⟨t442,t443⟩,A20,H⟩:=H;(try dsimp only at H);have A2:=Aside0.mk A20;clear A20;have HC3:=Aside0.mk H;clear H;go_enter Tryz.func16,Tryz.ntmps16
 repeat' (first|(go_big_may;(first|((with_reducible refine gate_callee (f:=25) rfl ?_);refine goesQ_ 7 Tryz.func25 #[.string a0] ?_;(with_reducible refine(impl_Canon.calls k a0 t442 t443 _ ?side1 A2.out).mono ?_);(case side1=>exact Gl.below HG.out zz0);rintro e w4 ⟨rfl,hb⟩;refine⟨_,rfl,?_⟩;replace HB:=Aside0.mk (below_step zz0 hb);(try clear hb))))|go_values|go_skip|go_big_skip|go_big_want|((first|(with_reducible refine gate_nog rfl ?_)|(fail_if_success with_reducible refine gate_any ?_));go_step)|go_upon|simp only[Bool.not_true,Bool.not_false,Bool.true_and,Bool.false_and,Bool.true_or,Bool.false_or]|dsimp only)
 (try simp only[Act.put,List.setIfInBounds_toArray,List.set_cons_zero,List.set_cons_succ]);have H:=HC3.out;clear HC3
 by_cases c5:t443=true
 ·subst c5;rw[if_pos rfl]at H;obtain rfl:=Option.some.inj H;go_wp2
  go_ret;exact⟨zz2,zz0⟩
 ·replace c5:=Bool.eq_false_iff.mpr c5;subst c5;rw[if_neg Bool.false_ne_true]at H;obtain rfl:=Option.some.inj H;go_wp2
  go_ret;exact⟨zz2,zz0⟩
def impl_divided.f (a0:ByteArray):Option (ByteArray×ByteArray×Bool):=(strings_Index.f a0 (⟨#[13,10,13,10]⟩:ByteArray)).bind fun t444=>(if t444<0 then(some ((⟨#[]⟩:ByteArray),(⟨#[]⟩:ByteArray),false))else(if 0≤(wrap64 (t444+4))then(if(wrap64 (t444+4))≤(a0.size:Int)then(some (a0.extract 0 ((wrap64 (t444+4)):Int).toNat,a0.extract ((wrap64 (t444+4)):Int).toNat a0.size,true))else(none))else(none)))
theorem impl_divided.calls (a0 r1 r2:ByteArray) (r3:Bool) (w:World) (hG:Gl w) (h:impl_divided.f a0=some (r1,r2,r3)):
  Calls Tryz.prog 17 #[.string a0] w fun e w'=>e= .returned (.tuple #[.string r1,.string r2,.bool r3])∧Below w.heap.size w w':=by
 have HG:=Aside0.mk hG;clear hG;have HB:=Aside0.mk (Below.refl w.heap.size w);have H:((strings_Index.f a0 (⟨#[13,10,13,10]⟩:ByteArray)).bind fun t444=>(if t444<0 then(some ((⟨#[]⟩:ByteArray),(⟨#[]⟩:ByteArray),false))else(if 0≤(wrap64 (t444+4))then(if(wrap64 (t444+4))≤(a0.size:Int)then(some (a0.extract 0 ((wrap64 (t444+4)):Int).toNat,a0.extract ((wrap64 (t444+4)):Int).toNat a0.size,true))else(none))else(none))))=some (r1,r2,r3):=h;clear h;replace H:=Option.bind_eq_some_iff.mp H;obtain⟨t444,A20,H⟩:=H;(try dsimp only at H);have A2:=Aside0.mk A20;clear A20
 by_cases c3:t444<0
 ·rw[if_pos c3]at H;have c3b0:decide (t444<0)=true:=decide_eq_true c3;clear c3;simp only[Option.some.injEq,Prod.mk.injEq]at H;obtain⟨rfl,rfl,rfl⟩:=H;go_enter Tryz.func17,Tryz.ntmps17
  go_wp2_with (first|(go_at_call 26;(with_reducible refine(strings_Index.calls a0 (⟨#[13,10,13,10]⟩:ByteArray) t444 _ ?side1 A2.out).mono ?_);(case side1=>exact Gl.below HG.out zz0);rintro e w4 ⟨rfl,hb⟩;have n0_:=Aside0.mk (below_step zz0 hb);clear HB;have HB:=n0_;clear n0_;(try clear hb);(try clear hb2);(try clear hk);(try clear hi)))
  repeat(go_quiet (first|(go_at_call 26;(with_reducible refine(strings_Index.calls a0 (⟨#[13,10,13,10]⟩:ByteArray) t444 _ ?side1 A2.out).mono ?_);(case side1=>exact Gl.below HG.out zz0);rintro e w4 ⟨rfl,hb⟩;have n0_:=Aside0.mk (below_step zz0 hb);clear HB;have HB:=n0_;clear n0_;(try clear hb);(try clear hb2);(try clear hk);(try clear hi)));try go_wp2_with (first|(go_at_call 26;(with_reducible refine(strings_Index.calls a0 (⟨#[13,10,13,10]⟩:ByteArray) t444 _ ?side1 A2.out).mono ?_);(case side1=>exact Gl.below HG.out zz0);rintro e w4 ⟨rfl,hb⟩;have n0_:=Aside0.mk (below_step zz0 hb);clear HB;have HB:=n0_;clear n0_;(try clear hb);(try clear hb2);(try clear hk);(try clear hi))))
  go_ret3
  exact⟨zz2,zz0⟩
 ·rw[if_neg c3]at H;have c3b0:decide (t444<0)=false:=decide_eq_false c3;clear c3;obtain⟨ji5,hji5⟩: ∃j_:Int,(wrap64 (t444+4))=j_:=⟨_,rfl⟩;replace H:(if 0≤(ji5)then(if(ji5)≤(a0.size:Int)then(some (a0.extract 0 ((ji5):Int).toNat,a0.extract ((ji5):Int).toNat a0.size,true))else(none))else(none))=some (r1,r2,r3):=by first|(rw[hji5]at H;exact H)|(simp only[hji5]at H ⊢;exact H)
  (try rw[hji5]at A2);have hji5w:(IntKind.i64.wrap (t444+4))=ji5:=(i64_w _).trans hji5
  by_cases c6:0≤(ji5)
  ·rw[if_pos c6]at H;have c6b0:=eq_true c6;have c6b1:decide (0≤(ji5))=true:=decide_eq_true c6;clear c6
   by_cases c7:(ji5)≤(a0.size:Int)
   ·rw[if_pos c7]at H;have c7b0:=eq_true c7;have c7b1:decide ((ji5)≤(a0.size:Int))=true:=decide_eq_true c7;clear c7;have c8b0:=eq_true (of_decide_eq_true zz3:0≤(ji5));have c9b0:=eq_true (of_decide_eq_true zz3:(ji5)≤(a0.size:Int));simp only[Option.some.injEq,Prod.mk.injEq]at H;obtain⟨rfl,rfl,rfl⟩:=H;go_enter Tryz.func17,Tryz.ntmps17
    go_wp2_with (first|(go_at_call 26;(with_reducible refine(strings_Index.calls a0 (⟨#[13,10,13,10]⟩:ByteArray) t444 _ ?side1 A2.out).mono ?_);(case side1=>exact Gl.below HG.out zz0);rintro e w10 ⟨rfl,hb⟩;have n0_:=Aside0.mk (below_step zz0 hb);clear HB;have HB:=n0_;clear n0_;(try clear hb);(try clear hb2);(try clear hk);(try clear hi)))
    repeat(go_quiet (first|(go_at_call 26;(with_reducible refine(strings_Index.calls a0 (⟨#[13,10,13,10]⟩:ByteArray) t444 _ ?side1 A2.out).mono ?_);(case side1=>exact Gl.below HG.out zz0);rintro e w10 ⟨rfl,hb⟩;have n0_:=Aside0.mk (below_step zz0 hb);clear HB;have HB:=n0_;clear n0_;(try clear hb);(try clear hb2);(try clear hk);(try clear hi)));try go_wp2_with (first|(go_at_call 26;(with_reducible refine(strings_Index.calls a0 (⟨#[13,10,13,10]⟩:ByteArray) t444 _ ?side1 A2.out).mono ?_);(case side1=>exact Gl.below HG.out zz0);rintro e w10 ⟨rfl,hb⟩;have n0_:=Aside0.mk (below_step zz0 hb);clear HB;have HB:=n0_;clear n0_;(try clear hb);(try clear hb2);(try clear hk);(try clear hi))))
    go_ret3
    exact⟨by first|rfl|(simp[errW_none,errW_some]<;>rfl)|(simp only[←hji5];first|rfl|(simp[errW_none,errW_some]<;>rfl))|(simp[*,errW_none,errW_some]<;>rfl),zz0⟩
   ·rw[if_neg c7]at H;exact absurd H (by simp)
  ·rw[if_neg c6]at H;exact absurd H (by simp)
mutual
def impl_base32.l0:Nat→ByteArray→List Int→Int→Int→Int→Option (ByteArray)
 |0,_,_,_,_,_=>none
 |k+1,x0,x3,x4,x5,x6=>if x6<(x0.size:Int)then(if 0≤x6 then(impl_base32.l1 k x0 x3 (Go.bits .or .i64 (wrap64 (x4*256)) (wrap64 (bt x0 x6))) (wrap64 (x5+8)) x6)else(none))else(if x5>0 then(if 0≤(wrap64 (5-x5))then(if 0≤(Go.bits .and .i64 (shl .i64 x4 (wrap64 (5-x5))) 31)then(if(Go.bits .and .i64 (shl .i64 x4 (wrap64 (5-x5))) 31)<32 then(if x3.length<140737488355328 then(some (strOfNums (x3++ [bt (⟨#[65,66,67,68,69,70,71,72,73,74,75,76,77,78,79,80,81,82,83,84,85,86,87,88,89,90,50,51,52,53,54,55]⟩:ByteArray) (Go.bits .and .i64 (shl .i64 x4 (wrap64 (5-x5))) 31)])))else(none))else(none))else(none))else(none))else(some (strOfNums x3)))
def impl_base32.l1:Nat→ByteArray→List Int→Int→Int→Int→Option (ByteArray)
 |0,_,_,_,_,_=>none
 |k+1,x0,x3,x4,x5,x6=>if x5≥5 then(if 0≤(wrap64 (x5-5))then(if 0≤(Go.bits .and .i64 (shr .i64 x4 (wrap64 (x5-5))) 31)then(if(Go.bits .and .i64 (shr .i64 x4 (wrap64 (x5-5))) 31)<32 then(if x3.length<140737488355328 then(impl_base32.l1 k x0 (x3++ [bt (⟨#[65,66,67,68,69,70,71,72,73,74,75,76,77,78,79,80,81,82,83,84,85,86,87,88,89,90,50,51,52,53,54,55]⟩:ByteArray) (Go.bits .and .i64 (shr .i64 x4 (wrap64 (x5-5))) 31)]) x4 (wrap64 (x5-5)) x6)else(none))else(none))else(none))else(none))else(impl_base32.l0 k x0 x3 (Go.bits .and .i64 x4 31) x5 (wrap64 (x6+1)))
end
def impl_base32.f (k:Nat) (a0:ByteArray):Option (ByteArray):=impl_base32.l0 k a0 ([]:List Int) 0 0 0
theorem impl_base32.calls (k:Nat) (a0 r:ByteArray) (w:World) (h:impl_base32.f k a0=some r):
  Calls Tryz.prog 27 #[.string a0] w fun e w'=>e= .returned (.string r)∧Below w.heap.size w w':=by
 have HB:=Aside0.mk (Below.refl w.heap.size w);have H:(impl_base32.l0 k a0 ([]:List Int) 0 0 0)=some r:=h;clear h;have H':=Aside0.mk H;clear H;go_enter Tryz.func27,Tryz.ntmps27
 go_wp2
 go_loopg [3,4,5,6] k (fun kq v3 v4 v5 v6 w'=> ∃(x3_1:List Int) (x4_1 x5_1 x6_1:Int),v4= .int .i64 x4_1∧v5= .int .i64 x5_1∧v6= .int .i64 x6_1∧Aside0 (impl_base32.l0 kq a0 x3_1 x4_1 x5_1 x6_1=some r)∧Aside0 (kq≤k)∧Aside0 (Kd.R (Kd.int .u8) 5 w' w.heap.size (fun _=>True) v3 x3_1)∧Aside0 (Below w.heap.size w w'))
 case atStart=>exact⟨(([]:List Int)),(0),(0),(0),zz1,zz1,zz1,H',⟨Nat.le_refl _⟩,⟨zz21⟩,⟨zz0⟩⟩
 case round=>as_aux_lemma=>
  clear H';obtain⟨x3_1,x4_1,x5_1,x6_1,rfl,rfl,rfl,HA,HK1,HO_3,HB⟩:=hrel
  cases gk with
  |zero=>exact absurd HA.out (by simp[impl_base32.l0])
  |succ k1=>
   have H:=HA.out;clear HA;simp only[impl_base32.l0]at H
   by_cases c2:x6_1<(a0.size:Int)
   ·rw[if_pos c2]at H;have c2b0:decide (x6_1<(a0.size:Int))=true:=decide_eq_true c2;clear c2
    by_cases c3:0≤x6_1
    ·rw[if_pos c3]at H;have c3b0:decide (0≤x6_1)=true:=decide_eq_true c3;clear c3;have H':=Aside0.mk H;clear H;have p4:0≤(x6_1:Int):=of_decide_eq_true zz3;have q4:x6_1<(a0.size:Int):=of_decide_eq_true zz3;have hx4:=bt_at a0 x6_1;replace p4:=eq_true p4;replace q4:=eq_true q4;go_wp2
     go_loopg [3,5] k1 (fun kq v3 v5 w'=> ∃(x3_2:List Int) (x5_2:Int),v5= .int .i64 x5_2∧Aside0 (impl_base32.l1 kq a0 x3_2 (Go.bits .or .i64 (wrap64 (x4_1*256)) (wrap64 (bt a0 x6_1))) x5_2 x6_1=some r)∧Aside0 (kq≤k1)∧Aside0 (Kd.R (Kd.int .u8) 5 w' w.heap.size (fun _=>True) v3 x3_2)∧Aside0 (Below w.heap.size w w'))
     case atStart=>exact⟨(x3_1),(wrap64 (x5_1+8)),zz1,H',⟨Nat.le_refl _⟩,⟨zz6⟩,⟨zz0⟩⟩
     case round=>
      clear H';(try clear c2);(try clear c2b0);(try clear p2);(try clear c3);(try clear c3b0);(try clear p4);(try clear q4);(try clear hx4);(try clear p4);(try clear q4);obtain⟨x3_2,x5_2,rfl,HA,HK2,HO_3,HB⟩:=hrel
      cases gk with
      |zero=>exact absurd HA.out (by simp[impl_base32.l1])
      |succ k2=>
       have H:=HA.out;clear HA;simp only[impl_base32.l1]at H
       by_cases c5:x5_2≥5
       ·rw[if_pos c5]at H;have c5b0:decide (5≤x5_2)=true:=decide_eq_true c5;clear c5;obtain⟨ji6,hji6⟩: ∃j_:Int,(wrap64 (x5_2-5))=j_:=⟨_,rfl⟩;replace H:(if 0≤(ji6)then(if 0≤(Go.bits .and .i64 (shr .i64 (Go.bits .or .i64 (wrap64 (x4_1*256)) (wrap64 (bt a0 x6_1))) (ji6)) 31)then(if(Go.bits .and .i64 (shr .i64 (Go.bits .or .i64 (wrap64 (x4_1*256)) (wrap64 (bt a0 x6_1))) (ji6)) 31)<32 then(if x3_2.length<140737488355328 then(impl_base32.l1 k2 a0 (x3_2++ [bt (⟨#[65,66,67,68,69,70,71,72,73,74,75,76,77,78,79,80,81,82,83,84,85,86,87,88,89,90,50,51,52,53,54,55]⟩:ByteArray) (Go.bits .and .i64 (shr .i64 (Go.bits .or .i64 (wrap64 (x4_1*256)) (wrap64 (bt a0 x6_1))) (ji6)) 31)]) (Go.bits .or .i64 (wrap64 (x4_1*256)) (wrap64 (bt a0 x6_1))) ji6 x6_1)else(none))else(none))else(none))else(none))=some r:=by first|(rw[hji6]at H;exact H)|(simp only[hji6]at H ⊢;exact H)
        have hji6w:(IntKind.i64.wrap (x5_2-5))=ji6:=(i64_w _).trans hji6
        by_cases c7:0≤(ji6)
        ·rw[if_pos c7]at H;have c7b0:=eq_true c7;have c7b1:decide (0≤(ji6))=true:=decide_eq_true c7;clear c7;obtain⟨ji8,hji8⟩: ∃j_:Int,(shr .i64 (Go.bits .or .i64 (wrap64 (x4_1*256)) (wrap64 (bt a0 x6_1))) (ji6))=j_:=⟨_,rfl⟩;replace H:(if 0≤(Go.bits .and .i64 (ji8) 31)then(if(Go.bits .and .i64 (ji8) 31)<32 then(if x3_2.length<140737488355328 then(impl_base32.l1 k2 a0 (x3_2++ [bt (⟨#[65,66,67,68,69,70,71,72,73,74,75,76,77,78,79,80,81,82,83,84,85,86,87,88,89,90,50,51,52,53,54,55]⟩:ByteArray) (Go.bits .and .i64 (ji8) 31)]) (Go.bits .or .i64 (wrap64 (x4_1*256)) (wrap64 (bt a0 x6_1))) ji6 x6_1)else(none))else(none))else(none))=some r:=by first|(rw[hji8]at H;exact H)|(simp only[hji8]at H ⊢;exact H)
         have hji8_:((Go.bits .or .i64 (wrap64 (x4_1*256)) (wrap64 (bt a0 x6_1)))/2^min (ji6).toNat 64)=ji8:=hji8;have hji8z:(ji6)≤64→((Go.bits .or .i64 (wrap64 (x4_1*256)) (wrap64 (bt a0 x6_1)))/2^(ji6).toNat)=ji8:=shr_small hji8
         by_cases c9:0≤(Go.bits .and .i64 (ji8) 31)
         ·rw[if_pos c9]at H;have c9b0:decide (0≤(Go.bits .and .i64 (ji8) 31))=true:=decide_eq_true c9;clear c9
          by_cases c10:(Go.bits .and .i64 (ji8) 31)<32
          ·rw[if_pos c10]at H;have c10b0:decide ((Go.bits .and .i64 (ji8) 31)<32)=true:=decide_eq_true c10;clear c10
           by_cases c12:x3_2.length<140737488355328
           ·rw[if_pos c12]at H;have LMc12:=Aside0.mk c12;clear c12;obtain⟨y448,hy448⟩: ∃y_:List Int,y_=(x3_2++ [bt (⟨#[65,66,67,68,69,70,71,72,73,74,75,76,77,78,79,80,81,82,83,84,85,86,87,88,89,90,50,51,52,53,54,55]⟩:ByteArray) (Go.bits .and .i64 (ji8) 31)]):=⟨_,rfl⟩;replace H:(impl_base32.l1 k2 a0 y448 (Go.bits .or .i64 (wrap64 (x4_1*256)) (wrap64 (bt a0 x6_1))) ji6 x6_1)=some r:=by first|(rw[hy448];with_reducible exact H)|(have H2_:=(Option.bind_some _ _).symm.trans H;rw[hy448];with_reducible exact H2_)|(have H2_:=(Option.bind_some _ _).symm.trans H;with_reducible exact H2_)|with_reducible exact H|(rw[hy448];exact H)|exact H
            have Ny448:=Aside0.mk hy448;clear hy448;have H':=Aside0.mk H;clear H;have p11:0≤((Go.bits .and .i64 (ji8) 31):Int):=of_decide_eq_true zz3;have q11:(Go.bits .and .i64 (ji8) 31)<(32:Int):=of_decide_eq_true zz3;have hx11:=bt_at (⟨#[65,66,67,68,69,70,71,72,73,74,75,76,77,78,79,80,81,82,83,84,85,86,87,88,89,90,50,51,52,53,54,55]⟩:ByteArray) (Go.bits .and .i64 (ji8) 31);replace p11:=eq_true p11;replace q11:=eq_true q11;go_wp2_with (first|((with_reducible refine gate_builtin (b:= .append) (xs:= #[.tmp 26,.tmp 33]) rfl ?_);at_builtin;refine Kd.R_append (Kd.int .u8) (w0:=w) w.heap.size rfl (.tmp 26) (.tmp 33) 45 5 (.int .u8 0) 1 rfl Tryz.underlying45 info5 rfl (by decide) (by omega) u3 x3_2 (bt (⟨#[65,66,67,68,69,70,71,72,73,74,75,76,77,78,79,80,81,82,83,84,85,86,87,88,89,90,50,51,52,53,54,55]⟩:ByteArray) (Go.bits .and .i64 (ji8) 31)) [.int .u8 (bt (⟨#[65,66,67,68,69,70,71,72,73,74,75,76,77,78,79,80,81,82,83,84,85,86,87,88,89,90,50,51,52,53,54,55]⟩:ByteArray) (Go.bits .and .i64 (ji8) 31))] (fun _=>True) (fun _=>False) rfl rfl ?aP (fun _ hk=>hk.elim) ?aF ?aO ?aB ?aS ?aL ?_;(case aP=>exact rfl);(case aB=>exact zz0);(case aF=>exact(fun _ _=>trivial));(case aO=>exact zz6);(case aS=>exact(below_size zz0));(case aL=>have:=LMc12.out;omega);intro v449 w13 ho hb hg hat;rw[←Ny448.out]at ho;replace HB:=Aside0.mk (hb);have HO450:=Aside0.mk (ho);clear HO_3;clear ho hb hg hat))
            go_roundg k2
            (case measure=>have:=HK1.out;have:=HK2.out;omega);case rel=>exact⟨(y448),(ji6),(by first|rfl|(simp;done)|(simp only[←hji6]<;>(first|rfl|simp))|(simp[*];done)),H',⟨zz65⟩,⟨by(with_reducible repeat(first|apply Kd.R_alloc|apply Kd.R_drewN|apply Kd.R_drew));exact HO450.out⟩,⟨zz0⟩⟩
           ·rw[if_neg c12]at H;exact absurd H (by simp)
          ·rw[if_neg c10]at H;exact absurd H (by simp)
         ·rw[if_neg c9]at H;exact absurd H (by simp)
        ·rw[if_neg c7]at H;exact absurd H (by simp)
       ·rw[if_neg c5]at H;have c5b0:decide (5≤x5_2)=false:=decide_eq_false c5;clear c5;have H':=Aside0.mk H;clear H;go_wp2
        go_roundg k2
        (case measure=>have:=HK1.out;have:=HK2.out;omega);case rel=>exact⟨(x3_2),(Go.bits .and .i64 (Go.bits .or .i64 (wrap64 (x4_1*256)) (wrap64 (bt a0 x6_1))) 31),(x5_2),(wrap64 (x6_1+1)),zz1,zz1,zz1,H',⟨zz65⟩,⟨zz6⟩,⟨zz0⟩⟩
    ·rw[if_neg c3]at H;exact absurd H (by simp)
   ·rw[if_neg c2]at H;have c2b0:decide (x6_1<(a0.size:Int))=false:=decide_eq_false c2;clear c2
    by_cases c14:x5_1>0
    ·rw[if_pos c14]at H;have c14b0:decide (0<x5_1)=true:=decide_eq_true c14;clear c14;obtain⟨ji15,hji15⟩: ∃j_:Int,(wrap64 (5-x5_1))=j_:=⟨_,rfl⟩;replace H:(if 0≤(ji15)then(if 0≤(Go.bits .and .i64 (shl .i64 x4_1 (ji15)) 31)then(if(Go.bits .and .i64 (shl .i64 x4_1 (ji15)) 31)<32 then(if x3_1.length<140737488355328 then(some (strOfNums (x3_1++ [bt (⟨#[65,66,67,68,69,70,71,72,73,74,75,76,77,78,79,80,81,82,83,84,85,86,87,88,89,90,50,51,52,53,54,55]⟩:ByteArray) (Go.bits .and .i64 (shl .i64 x4_1 (ji15)) 31)])))else(none))else(none))else(none))else(none))=some r:=by first|(rw[hji15]at H;exact H)|(simp only[hji15]at H ⊢;exact H)
     have hji15w:(IntKind.i64.wrap (5-x5_1))=ji15:=(i64_w _).trans hji15
     by_cases c16:0≤(ji15)
     ·rw[if_pos c16]at H;have c16b0:=eq_true c16;have c16b1:decide (0≤(ji15))=true:=decide_eq_true c16;clear c16;obtain⟨ji17,hji17⟩: ∃j_:Int,(shl .i64 x4_1 (ji15))=j_:=⟨_,rfl⟩;replace H:(if 0≤(Go.bits .and .i64 (ji17) 31)then(if(Go.bits .and .i64 (ji17) 31)<32 then(if x3_1.length<140737488355328 then(some (strOfNums (x3_1++ [bt (⟨#[65,66,67,68,69,70,71,72,73,74,75,76,77,78,79,80,81,82,83,84,85,86,87,88,89,90,50,51,52,53,54,55]⟩:ByteArray) (Go.bits .and .i64 (ji17) 31)])))else(none))else(none))else(none))=some r:=by first|(rw[hji17]at H;exact H)|(simp only[hji17]at H ⊢;exact H)
      have hji17_:(IntKind.i64.wrap (x4_1*2^min (ji15).toNat 64))=ji17:=hji17;have hji17z:(ji15)≤64→(IntKind.i64.wrap (x4_1*2^(ji15).toNat))=ji17:=shl_small hji17;have hji17y:(wrap64 (x4_1*2^min (ji15).toNat 64))=ji17:=(i64_w _).symm.trans hji17_;have hji17x:(ji15)≤64→(wrap64 (x4_1*2^(ji15).toNat))=ji17:=fun h_=>(i64_w _).symm.trans (hji17z h_)
      by_cases c18:0≤(Go.bits .and .i64 (ji17) 31)
      ·rw[if_pos c18]at H;have c18b0:decide (0≤(Go.bits .and .i64 (ji17) 31))=true:=decide_eq_true c18;clear c18
       by_cases c19:(Go.bits .and .i64 (ji17) 31)<32
       ·rw[if_pos c19]at H;have c19b0:decide ((Go.bits .and .i64 (ji17) 31)<32)=true:=decide_eq_true c19;clear c19
        by_cases c21:x3_1.length<140737488355328
        ·rw[if_pos c21]at H;have LMc21:=Aside0.mk c21;clear c21;obtain⟨y445,hy445⟩: ∃y_:List Int,y_=(x3_1++ [bt (⟨#[65,66,67,68,69,70,71,72,73,74,75,76,77,78,79,80,81,82,83,84,85,86,87,88,89,90,50,51,52,53,54,55]⟩:ByteArray) (Go.bits .and .i64 (ji17) 31)]):=⟨_,rfl⟩;replace H:(some (strOfNums y445))=some r:=by first|(rw[hy445];with_reducible exact H)|(have H2_:=(Option.bind_some _ _).symm.trans H;rw[hy445];with_reducible exact H2_)|(have H2_:=(Option.bind_some _ _).symm.trans H;with_reducible exact H2_)|with_reducible exact H|(rw[hy445];exact H)|exact H
         have Ny445:=Aside0.mk hy445;clear hy445;obtain rfl:=Option.some.inj H;have p20:0≤((Go.bits .and .i64 (ji17) 31):Int):=of_decide_eq_true zz3;have q20:(Go.bits .and .i64 (ji17) 31)<(32:Int):=of_decide_eq_true zz3;have hx20:=bt_at (⟨#[65,66,67,68,69,70,71,72,73,74,75,76,77,78,79,80,81,82,83,84,85,86,87,88,89,90,50,51,52,53,54,55]⟩:ByteArray) (Go.bits .and .i64 (ji17) 31);replace p20:=eq_true p20;replace q20:=eq_true q20;go_wp2_with (first|((with_reducible refine gate_builtin (b:= .append) (xs:= #[.tmp 39,.tmp 46]) rfl ?_);at_builtin;refine Kd.R_append (Kd.int .u8) (w0:=w) w.heap.size rfl (.tmp 39) (.tmp 46) 45 5 (.int .u8 0) 1 rfl Tryz.underlying45 info5 rfl (by decide) (by omega) u3 x3_1 (bt (⟨#[65,66,67,68,69,70,71,72,73,74,75,76,77,78,79,80,81,82,83,84,85,86,87,88,89,90,50,51,52,53,54,55]⟩:ByteArray) (Go.bits .and .i64 (ji17) 31)) [.int .u8 (bt (⟨#[65,66,67,68,69,70,71,72,73,74,75,76,77,78,79,80,81,82,83,84,85,86,87,88,89,90,50,51,52,53,54,55]⟩:ByteArray) (Go.bits .and .i64 (ji17) 31))] (fun _=>True) (fun _=>False) rfl rfl ?aP (fun _ hk=>hk.elim) ?aF ?aO ?aB ?aS ?aL ?_;(case aP=>exact rfl);(case aB=>exact zz0);(case aF=>exact(fun _ _=>trivial));(case aO=>exact zz6);(case aS=>exact(below_size zz0));(case aL=>have:=LMc21.out;omega);intro v446 w22 ho hb hg hat;rw[←Ny445.out]at ho;replace HB:=Aside0.mk (hb);have HO447:=Aside0.mk (ho);clear HO_3;clear ho hb hg hat;have hcv23:=own_string (P:=Tryz.prog) Tryz.underlying45 Tryz.underlying5 Tryz.underlying9 (Kd.own_of_R HO447.out)))
         go_ret;exact⟨by first|rfl|(simp[errW_none,errW_some]<;>rfl)|(simp only[←hji15,←hji17];first|rfl|(simp[errW_none,errW_some]<;>rfl))|(simp[*,errW_none,errW_some]<;>rfl),zz0⟩
        ·rw[if_neg c21]at H;exact absurd H (by simp)
       ·rw[if_neg c19]at H;exact absurd H (by simp)
      ·rw[if_neg c18]at H;exact absurd H (by simp)
     ·rw[if_neg c16]at H;exact absurd H (by simp)
    ·rw[if_neg c14]at H;have c14b0:decide (0<x5_1)=false:=decide_eq_false c14;clear c14;obtain rfl:=Option.some.inj H;have hcv24:=own_string (P:=Tryz.prog) Tryz.underlying45 Tryz.underlying5 Tryz.underlying9 (Kd.own_of_R HO_3.out);go_wp2
     go_ret;exact⟨zz2,zz0⟩
def impl_areWords.l0:Nat→List Int→Int→Int→Option (Bool)
 |0,_,_,_=>none
 |k+1,x11,x12,x13=>if x13<x12 then(if 0≤x13 then(if x13<(x11.length:Int)then((impl_within.f (rd x11 x13) 0 4294967295).bind fun t452=>(if t452=true then(impl_areWords.l0 k x11 x12 (wrap64 (x13+1)))else(some false)))else(none))else(none))else(some true)
def impl_areWords.f (k:Nat) (l0:List Int) (a1:Int):Option (Bool):=if(l0.length:Int)=a1 then(impl_areWords.l0 k l0 (l0.length:Int) 0)else(some false)
theorem impl_areWords.calls (k:Nat) (A0:Option Addr) (c0:Nat) (l0:List Int) (a1:Int) (r:Bool) (w:World) (hr0:Kd.C (Kd.int .i64) w A0 l0.length l0) (hc0:l0.length≤c0) (h:impl_areWords.f k l0 a1=some r):
  Calls Tryz.prog 105 #[.slice A0 l0.length c0,.int .i64 a1] w fun e w'=>e= .returned (.bool r)∧Drawn0 w w':=by
 have HR0:=Aside0.mk hr0;have HC0:=Aside0.mk hc0;clear hr0 hc0;have H:(if(l0.length:Int)=a1 then(impl_areWords.l0 k l0 (l0.length:Int) 0)else(some false))=some r:=h;clear h
 by_cases c3:(l0.length:Int)=a1
 ·rw[if_pos c3]at H;have c3b0:((l0.length:Int)==a1)=true:=beq_iff_eq.mpr c3;have c3b1:((l0.length:Int)!=a1)=false:=bne_eq_false_iff_eq.mpr c3;clear c3;have H':=Aside0.mk H;clear H;go_enter Tryz.func105,Tryz.ntmps105
  go_wp2
  go_loopg [13] k (fun kq v13 w'=> ∃(x13_1:Int),v13= .int .i64 x13_1∧Aside0 (impl_areWords.l0 kq l0 (l0.length:Int) x13_1=some r)∧Aside0 (kq≤k)∧Drawn0 w w')
  case atStart=>exact⟨(0),zz1,H',⟨Nat.le_refl _⟩,zz4⟩
  case round=>
   clear H';(try clear c1);(try clear p2);(try clear c3);(try clear c3b0);(try clear c3b1);obtain⟨x13_1,rfl,HA,HK1,⟨m1,rfl⟩⟩:=hrel
   cases gk with
   |zero=>exact absurd HA.out (by simp[impl_areWords.l0])
   |succ k1=>
    have H:=HA.out;clear HA;simp only[impl_areWords.l0]at H
    by_cases c4:x13_1<(l0.length:Int)
    ·rw[if_pos c4]at H;have c4b0:decide (x13_1<(l0.length:Int))=true:=decide_eq_true c4;clear c4
     by_cases c5:0≤x13_1
     ·rw[if_pos c5]at H;have c5b0:decide (0≤x13_1)=true:=decide_eq_true c5;clear c5
      by_cases c6:x13_1<(l0.length:Int)
      ·rw[if_pos c6]at H;have c6b0:decide (x13_1<(l0.length:Int))=true:=decide_eq_true c6;clear c6;replace H:=Option.bind_eq_some_iff.mp H;obtain⟨t452,A70,H⟩:=H;(try dsimp only at H);have A7:=Aside0.mk A70;clear A70;have HC8:=Aside0.mk H;clear H;have p451:0≤(x13_1:Int):=of_decide_eq_true zz3;have q451:x13_1<(l0.length:Int):=of_decide_eq_true zz3;obtain⟨ad451,e451,hx451_0⟩:=Kd.at_int HR0.out x13_1 p451 q451;cases e451;replace p451:=eq_true p451;replace q451:=eq_true q451;go_upto_if 19 with(first|((with_reducible refine gate_callee (f:=13) rfl ?_);refine goesR_ 18 Tryz.func13 #[.int .i64 (rd l0 x13_1),.int .i64 0,.int .i64 4294967295] (impl_within.calls (rd l0 x13_1) 0 4294967295 t452 _ A7.out) ?_;rintro w' ⟨nd,rfl⟩))
       (try simp only[Act.put,List.setIfInBounds_toArray,List.set_cons_zero,List.set_cons_succ]);have H:=HC8.out;clear HC8
       by_cases c9:t452=true
       ·subst c9;rw[if_pos rfl]at H;have H':=Aside0.mk H;clear H;go_wp2
        go_roundg k1
        (case measure=>have:=HK1.out;omega);case rel=>exact⟨(wrap64 (x13_1+1)),zz1,H',⟨zz60⟩,zz4⟩
       ·replace c9:=Bool.eq_false_iff.mpr c9;subst c9;rw[if_neg Bool.false_ne_true]at H;obtain rfl:=Option.some.inj H;go_wp2
        go_ret;exact⟨zz1,zz4⟩
      ·rw[if_neg c6]at H;exact absurd H (by simp)
     ·rw[if_neg c5]at H;exact absurd H (by simp)
    ·rw[if_neg c4]at H;have c4b0:decide (x13_1<(l0.length:Int))=false:=decide_eq_false c4;clear c4;obtain rfl:=Option.some.inj H;go_wp2
     go_ret;exact⟨zz1,zz4⟩
 ·rw[if_neg c3]at H;have c3b0:((l0.length:Int)==a1)=false:=beq_eq_false_iff_ne.mpr c3;have c3b1:((l0.length:Int)!=a1)=true:=bne_iff_ne.mpr c3;obtain rfl:=Option.some.inj H;go_enter Tryz.func105,Tryz.ntmps105
  go_wp2
  go_ret;exact⟨zz1,zz4⟩
def impl_ShaOk.f (k:Nat) (l0_0:List Int) (a0_1:ByteArray) (a0_2:Int):Option (Bool):=(impl_areWords.f k l0_0 5).bind fun t454=>(if t454=true then((impl_within.f a0_2 0 999999999999999).bind fun t455=>(if t455=true then(some ((a0_1.size:Int)==(Int.tmod a0_2 64)))else(some false)))else(some false))
theorem impl_ShaOk.calls (k:Nat) (A0_0:Option Addr) (c0_0:Nat) (l0_0:List Int) (a0_1:ByteArray) (a0_2:Int) (r:Bool) (w:World) (hr0_0:Kd.C (Kd.int .i64) w A0_0 l0_0.length l0_0) (hc0_0:l0_0.length≤c0_0) (h:impl_ShaOk.f k l0_0 a0_1 a0_2=some r):
  Calls Tryz.prog 71 #[.agg #[.slice A0_0 l0_0.length c0_0,.string a0_1,.int .i64 a0_2]] w fun e w'=>e= .returned (.bool r)∧Below w.heap.size w w':=by
 have hu50:=Tryz.underlying50;have HR0_0:=Aside0.mk hr0_0;have HC0_0:=Aside0.mk hc0_0;clear hr0_0 hc0_0;have HB:=Aside0.mk (Below.refl w.heap.size w);have H:((impl_areWords.f k l0_0 5).bind fun t454=>(if t454=true then((impl_within.f a0_2 0 999999999999999).bind fun t455=>(if t455=true then(some ((a0_1.size:Int)==(Int.tmod a0_2 64)))else(some false)))else(some false)))=some r:=h;clear h;replace H:=Option.bind_eq_some_iff.mp H;obtain⟨t454,A20,H⟩:=H;(try dsimp only at H);have A2:=Aside0.mk A20;clear A20;have HC3:=Aside0.mk H;clear H;go_enter Tryz.func71,Tryz.ntmps71
 repeat' (first|(go_big_may;(first|((with_reducible refine gate_dst (N:=1) rfl ?_);(try(refine gate_guard (by rfl) ?_;dsimp only));refine boxP_ (N:=1) (cs:= #[.slice A0_0 l0_0.length c0_0,.string a0_1,.int .i64 a0_2]) (t:=50) ?_;intro gb453 hg w4 hbox hb;have BK453:=Aside0.mk (hbox);have GE453:=geb_ (w:=w) hg zz0;replace HB:=Aside0.mk (below_step zz0 hb);clear hb hbox hg;obtain⟨_,_,_,_,_,_⟩:=cells3_ BK453.out)|((with_reducible refine gate_callee (f:=105) rfl ?_);refine goesQ_ 5 Tryz.func105 #[.slice A0_0 l0_0.length c0_0,.int .i64 5] ?_;(with_reducible refine(impl_areWords.calls k _ _ l0_0 5 t454 _ ?side1 ?side2 A2.out).mono ?_);(case side1=>repeat(first|exact(Kd.C_below HR0_0.out HB.out)|(with_reducible refine Kd.C_alloc ?_ _)|(with_reducible refine Kd.C_drewN ?_ _)|(with_reducible refine Kd.C_drew ?_)));(case side2=>exact HC0_0.out);rintro e w' ⟨rfl,⟨nd,rfl⟩⟩;refine⟨_,rfl,?_⟩)))|go_values|go_skip|go_big_skip|go_big_want|((first|(with_reducible refine gate_nog rfl ?_)|(fail_if_success with_reducible refine gate_any ?_));go_step)|go_upon|simp only[Bool.not_true,Bool.not_false,Bool.true_and,Bool.false_and,Bool.true_or,Bool.false_or]|dsimp only)
 (try simp only[Act.put,List.setIfInBounds_toArray,List.set_cons_zero,List.set_cons_succ]);(try(rw[drewN_self w4];generalize hq_:World.drewN w4 _=w4;have n0_:Aside0 (w4.heap[gb453]?=some (.cells #[.slice A0_0 l0_0.length c0_0,.string a0_1,.int .i64 a0_2] 50 (0,0))):=⟨zz103⟩;have n1_:Aside0 (Below w.heap.size w w4):=⟨by rw[←hq_];exact zz44⟩;clear BK453 HB hq_;have BK453:=n0_;have HB:=n1_;clear n0_ n1_;have hcu1:w4.cell? ⟨gb453,0,none⟩=some (.slice A0_0 l0_0.length c0_0):=(blk_cell BK453.out 0).trans rfl;have hfu1:=blk_frozen BK453.out 0;have hcu2:w4.cell? ⟨gb453,1,none⟩=some (.string a0_1):=(blk_cell BK453.out 1).trans rfl;have hfu2:=blk_frozen BK453.out 1;have hcu3:w4.cell? ⟨gb453,2,none⟩=some (.int .i64 a0_2):=(blk_cell BK453.out 2).trans rfl;have hfu3:=blk_frozen BK453.out 2));have H:=HC3.out;clear HC3
 by_cases c6:t454=true
 ·subst c6;rw[if_pos rfl]at H;replace H:=Option.bind_eq_some_iff.mp H;obtain⟨t455,A70,H⟩:=H;(try dsimp only at H);have A7:=Aside0.mk A70;clear A70;have HC8:=Aside0.mk H;clear H;obtain⟨_,_,_,_,_,_⟩:=cells3_ BK453.out
  repeat' (first|(go_big_may;(first|(go_at_call 13;(with_reducible refine(impl_within.calls a0_2 0 999999999999999 t455 _ A7.out).mono ?_);rintro e w' ⟨rfl,⟨nd,rfl⟩⟩)))|go_values|go_skip|go_big_skip|go_big_want|((first|(with_reducible refine gate_nog rfl ?_)|(fail_if_success with_reducible refine gate_any ?_));go_step)|go_upon|simp only[Bool.not_true,Bool.not_false,Bool.true_and,Bool.false_and,Bool.true_or,Bool.false_or]|dsimp only)
  (try simp only[Act.put,List.setIfInBounds_toArray,List.set_cons_zero,List.set_cons_succ]);(try(rw[drewN_self w4];generalize hq_:World.drewN w4 _=w4;have n0_:Aside0 (w4.heap[gb453]?=some (.cells #[.slice A0_0 l0_0.length c0_0,.string a0_1,.int .i64 a0_2] 50 (0,0))):=⟨zz103⟩;have n1_:Aside0 (Below w.heap.size w w4):=⟨by rw[←hq_];exact zz44⟩;clear BK453 HB hq_;have BK453:=n0_;have HB:=n1_;clear n0_ n1_;have hcu4:w4.cell? ⟨gb453,0,none⟩=some (.slice A0_0 l0_0.length c0_0):=(blk_cell BK453.out 0).trans rfl;have hfu4:=blk_frozen BK453.out 0;have hcu5:w4.cell? ⟨gb453,1,none⟩=some (.string a0_1):=(blk_cell BK453.out 1).trans rfl;have hfu5:=blk_frozen BK453.out 1;have hcu6:w4.cell? ⟨gb453,2,none⟩=some (.int .i64 a0_2):=(blk_cell BK453.out 2).trans rfl;have hfu6:=blk_frozen BK453.out 2));have H:=HC8.out;clear HC8
  by_cases c10:t455=true
  ·subst c10;rw[if_pos rfl]at H;obtain rfl:=Option.some.inj H;obtain⟨_,_,_,_,_,_⟩:=cells3_ BK453.out;go_wp2
   go_ret;exact⟨zz2,zz44⟩
  ·replace c10:=Bool.eq_false_iff.mpr c10;subst c10;rw[if_neg Bool.false_ne_true]at H;obtain rfl:=Option.some.inj H;go_wp2
   go_ret;exact⟨zz2,zz44⟩
 ·replace c6:=Bool.eq_false_iff.mpr c6;subst c6;rw[if_neg Bool.false_ne_true]at H;obtain rfl:=Option.some.inj H;go_wp2
  go_ret;exact⟨zz2,zz44⟩
def impl_bigEndian.l0:Nat→Int→List Int→Int→Option (ByteArray)
 |0,_,_,_=>none
 |k+1,x0,x5,x6=>if x6≥0 then(if 0≤x6 then(if x5.length<140737488355328 then(impl_bigEndian.l0 k x0 (x5++ [(shr .i64 x0 x6)%256]) (wrap64 (x6-8)))else(none))else(none))else(some (strOfNums x5))
def impl_bigEndian.f (k:Nat) (a0 a1:Int):Option (ByteArray):=impl_bigEndian.l0 k a0 ([]:List Int) (wrap64 (8*(wrap64 (a1-1))))
theorem impl_bigEndian.calls (k:Nat) (a0 a1:Int) (r:ByteArray) (w:World) (h:impl_bigEndian.f k a0 a1=some r):
  Calls Tryz.prog 72 #[.int .i64 a0,.int .i64 a1] w fun e w'=>e= .returned (.string r)∧Below w.heap.size w w':=by
 have HB:=Aside0.mk (Below.refl w.heap.size w);have H:(impl_bigEndian.l0 k a0 ([]:List Int) (wrap64 (8*(wrap64 (a1-1)))))=some r:=h;clear h;have H':=Aside0.mk H;clear H;go_enter Tryz.func72,Tryz.ntmps72
 go_wp2
 go_loopg [5,6] k (fun kq v5 v6 w'=> ∃(x5_1:List Int) (x6_1:Int),v6= .int .i64 x6_1∧Aside0 (impl_bigEndian.l0 kq a0 x5_1 x6_1=some r)∧Aside0 (kq≤k)∧Aside0 (Kd.R (Kd.int .u8) 5 w' w.heap.size (fun _=>True) v5 x5_1)∧Aside0 (Below w.heap.size w w'))
 case atStart=>exact⟨(([]:List Int)),(wrap64 (8*(wrap64 (a1-1)))),zz1,H',⟨Nat.le_refl _⟩,⟨zz21⟩,⟨zz0⟩⟩
 case round=>
  clear H';(try clear p2);obtain⟨x5_1,x6_1,rfl,HA,HK1,HO_5,HB⟩:=hrel
  cases gk with
  |zero=>exact absurd HA.out (by simp[impl_bigEndian.l0])
  |succ k1=>
   have H:=HA.out;clear HA;simp only[impl_bigEndian.l0]at H
   by_cases c3:x6_1≥0
   ·rw[if_pos c3]at H;have c3b0:decide (0≤x6_1)=true:=decide_eq_true c3;clear c3
    by_cases c4:0≤x6_1
    ·rw[if_pos c4]at H;have c4b0:=eq_true c4;have c4b1:decide (0≤x6_1)=true:=decide_eq_true c4;clear c4;obtain⟨ji5,hji5⟩: ∃j_:Int,(shr .i64 a0 x6_1)=j_:=⟨_,rfl⟩;replace H:(if x5_1.length<140737488355328 then(impl_bigEndian.l0 k1 a0 (x5_1++ [(ji5)%256]) (wrap64 (x6_1-8)))else(none))=some r:=by first|(rw[hji5]at H;exact H)|(simp only[hji5]at H ⊢;exact H)
     have hji5_:(a0/2^min x6_1.toNat 64)=ji5:=hji5;have hji5z:x6_1≤64→(a0/2^x6_1.toNat)=ji5:=shr_small hji5
     by_cases c6:x5_1.length<140737488355328
     ·rw[if_pos c6]at H;have LMc6:=Aside0.mk c6;clear c6;obtain⟨y456,hy456⟩: ∃y_:List Int,y_=(x5_1++ [(ji5)%256]):=⟨_,rfl⟩;replace H:(impl_bigEndian.l0 k1 a0 y456 (wrap64 (x6_1-8)))=some r:=by first|(rw[hy456];with_reducible exact H)|(have H2_:=(Option.bind_some _ _).symm.trans H;rw[hy456];with_reducible exact H2_)|(have H2_:=(Option.bind_some _ _).symm.trans H;with_reducible exact H2_)|with_reducible exact H|(rw[hy456];exact H)|exact H
      have Ny456:=Aside0.mk hy456;clear hy456;have H':=Aside0.mk H;clear H;go_wp2_with (first|((with_reducible refine gate_builtin (b:= .append) (xs:= #[.tmp 14,.tmp 19]) rfl ?_);at_builtin;refine Kd.R_append (Kd.int .u8) (w0:=w) w.heap.size rfl (.tmp 14) (.tmp 19) 45 5 (.int .u8 0) 1 rfl Tryz.underlying45 info5 rfl (by decide) (by omega) u5 x5_1 ((ji5)%256) [.int .u8 ((ji5)%256)] (fun _=>True) (fun _=>False) rfl rfl ?aP (fun _ hk=>hk.elim) ?aF ?aO ?aB ?aS ?aL ?_;(case aP=>exact rfl);(case aB=>exact zz0);(case aF=>exact(fun _ _=>trivial));(case aO=>exact zz37);(case aS=>exact(below_size zz0));(case aL=>have:=LMc6.out;omega);intro v457 w7 ho hb hg hat;rw[←Ny456.out]at ho;replace HB:=Aside0.mk (hb);have HO458:=Aside0.mk (ho);clear HO_5;clear ho hb hg hat))
      go_roundg k1
      (case measure=>have:=HK1.out;omega);case rel=>exact⟨(y456),(wrap64 (x6_1-8)),zz1,H',⟨zz60⟩,⟨by(with_reducible repeat(first|apply Kd.R_alloc|apply Kd.R_drewN|apply Kd.R_drew));exact HO458.out⟩,⟨zz0⟩⟩
     ·rw[if_neg c6]at H;exact absurd H (by simp)
    ·rw[if_neg c4]at H;exact absurd H (by simp)
   ·rw[if_neg c3]at H;have c3b0:decide (0≤x6_1)=false:=decide_eq_false c3;clear c3;obtain rfl:=Option.some.inj H;have hcv8:=own_string (P:=Tryz.prog) Tryz.underlying45 Tryz.underlying5 Tryz.underlying9 (Kd.own_of_R HO_5.out);go_wp2
    go_ret;exact⟨zz2,zz0⟩
def bits_RotateLeft32.f (a0 a1:Int):Option (Int):=if 0≤(Go.bits .and .u64 (IntKind.u64.wrap (a1)) 31)then(if 0≤(IntKind.u64.wrap (32-(Go.bits .and .u64 (IntKind.u64.wrap (a1)) 31)))then(some (Go.bits .or .u32 (shl .u32 a0 (Go.bits .and .u64 (IntKind.u64.wrap (a1)) 31)) (shr .u32 a0 (IntKind.u64.wrap (32-(Go.bits .and .u64 (IntKind.u64.wrap (a1)) 31))))))else(none))else(none)
theorem bits_RotateLeft32.calls (a0 a1 r:Int) (w:World) (h:bits_RotateLeft32.f a0 a1=some r):
  Calls Tryz.prog 126 #[.int .u32 a0,.int .i64 a1] w fun e w'=>e= .returned (.int .u32 r)∧Drawn0 w w':=by
 have H:(if 0≤(Go.bits .and .u64 (IntKind.u64.wrap (a1)) 31)then(if 0≤(IntKind.u64.wrap (32-(Go.bits .and .u64 (IntKind.u64.wrap (a1)) 31)))then(some (Go.bits .or .u32 (shl .u32 a0 (Go.bits .and .u64 (IntKind.u64.wrap (a1)) 31)) (shr .u32 a0 (IntKind.u64.wrap (32-(Go.bits .and .u64 (IntKind.u64.wrap (a1)) 31))))))else(none))else(none))=some r:=h;clear h;obtain⟨ji3,hji3⟩: ∃j_:Int,(Go.bits .and .u64 (IntKind.u64.wrap (a1)) 31)=j_:=⟨_,rfl⟩;replace H:(if 0≤(ji3)then(if 0≤(IntKind.u64.wrap (32-(ji3)))then(some (Go.bits .or .u32 (shl .u32 a0 (ji3)) (shr .u32 a0 (IntKind.u64.wrap (32-(ji3))))))else(none))else(none))=some r:=by first|(rw[hji3]at H;exact H)|(simp only[hji3]at H ⊢;exact H)
 by_cases c4:0≤(ji3)
 ·rw[if_pos c4]at H;have c4b0:=eq_true c4;have c4b1:decide (0≤(ji3))=true:=decide_eq_true c4;clear c4;obtain⟨ji5,hji5⟩: ∃j_:Int,(shl .u32 a0 (ji3))=j_:=⟨_,rfl⟩;replace H:(if 0≤(IntKind.u64.wrap (32-(ji3)))then(some (Go.bits .or .u32 (ji5) (shr .u32 a0 (IntKind.u64.wrap (32-(ji3))))))else(none))=some r:=by first|(rw[hji5]at H;exact H)|(simp only[hji5]at H ⊢;exact H)
  have hji5_:(IntKind.u32.wrap (a0*2^min (ji3).toNat 32))=ji5:=hji5;have hji5z:(ji3)≤32→(IntKind.u32.wrap (a0*2^(ji3).toNat))=ji5:=shl_small hji5;obtain⟨ji6,hji6⟩: ∃j_:Int,(IntKind.u64.wrap (32-(ji3)))=j_:=⟨_,rfl⟩;replace H:(if 0≤(ji6)then(some (Go.bits .or .u32 (ji5) (shr .u32 a0 (ji6))))else(none))=some r:=by first|(rw[hji6]at H;exact H)|(simp only[hji6]at H ⊢;exact H)
  by_cases c7:0≤(ji6)
  ·rw[if_pos c7]at H;have c7b0:=eq_true c7;have c7b1:decide (0≤(ji6))=true:=decide_eq_true c7;clear c7;obtain⟨ji8,hji8⟩: ∃j_:Int,(shr .u32 a0 (ji6))=j_:=⟨_,rfl⟩;replace H:(some (Go.bits .or .u32 (ji5) (ji8)))=some r:=by first|(rw[hji8]at H;exact H)|(simp only[hji8]at H ⊢;exact H)
   have hji8_:(a0/2^min (ji6).toNat 32)=ji8:=hji8;have hji8z:(ji6)≤32→(a0/2^(ji6).toNat)=ji8:=shr_small hji8;obtain rfl:=Option.some.inj H;go_enter Tryz.func126,Tryz.ntmps126
   go_wp2
   go_ret;exact⟨by first|rfl|(simp;done)|(simp only[←hji3,←hji5,←hji6,←hji8]<;>(first|rfl|simp))|(simp[*];done),zz4⟩
  ·rw[if_neg c7]at H;exact absurd H (by simp)
 ·rw[if_neg c4]at H;exact absurd H (by simp)
def impl_turn.f (a0 a1:Int):Option (Int):=(bits_RotateLeft32.f ((a0)%4294967296) a1).bind fun t459=>(some (wrap64 (t459)))
theorem impl_turn.calls (a0 a1 r:Int) (w:World) (h:impl_turn.f a0 a1=some r):
  Calls Tryz.prog 107 #[.int .i64 a0,.int .i64 a1] w fun e w'=>e= .returned (.int .i64 r)∧Drawn0 w w':=by
 have H:((bits_RotateLeft32.f ((a0)%4294967296) a1).bind fun t459=>(some (wrap64 (t459))))=some r:=h;clear h;replace H:=Option.bind_eq_some_iff.mp H;obtain⟨t459,A30,H⟩:=H;(try dsimp only at H);have A3:=Aside0.mk A30;clear A30;obtain rfl:=Option.some.inj H;go_enter Tryz.func107,Tryz.ntmps107
 go_wp2_with (first|((with_reducible refine gate_callee (f:=126) rfl ?_);refine goesR_ 8 Tryz.func126 #[.int .u32 ((a0)%4294967296),.int .i64 a1] (bits_RotateLeft32.calls ((a0)%4294967296) a1 t459 _ A3.out) ?_;rintro w' ⟨nd,rfl⟩))
 go_ret;exact⟨zz1,zz4⟩
end Go.Proofs.YtgkipkifkobjnaaGreatDoor.GFnExactRecOk
