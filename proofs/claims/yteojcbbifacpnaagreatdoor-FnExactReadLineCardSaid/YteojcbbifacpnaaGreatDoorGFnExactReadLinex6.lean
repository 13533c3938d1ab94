-- Printed by gen.py and its programs for this claim.
import Derived.Test.YteojcbbifacpnaaGreatDoorGFnExactReadLinex0
import Derived.Test.YteojcbbifacpnaaGreatDoorGFnExactReadLinex1
import Derived.Test.YteojcbbifacpnaaGreatDoorZFnExactReadLine
namespace Go.Proofs.YteojcbbifacpnaaGreatDoor.GFnExactReadLine
open Go.RowKit Go.Proofs.YteojcbbifacpnaaGreatDoorW.PrintWords Go.Proofs.YteojcbbifacpnaaGreatDoorW.PrintLast Go.Proofs.YteojcbbifacpnaaGreatDoorW.PrintMore Go.Proofs.YteojcbbifacpnaaGreatDoorW.Zs
set_option maxHeartbeats 40000000
set_option maxRecDepth 100000
attribute [local go_sem] zL qL xN zN qK xK xL jL
set_option linter.unusedVariables false
set_option linter.unusedSimpArgs false
def wT.f (k:Nat) (a0_0:ByteArray) (a0_1:Int) (a0_2 a0_3:ByteArray) (a0_4:Bool):Option (ByteArray):=if a0_1=80 then(some (⟨#[]⟩:ByteArray))else((qE.f k a0_1).bind fun t176=>(if 1+t176.size≤9223372036854775807 then(some ((⟨#[58]⟩:ByteArray)++t176))else(none)))
theorem wT.calls (k:Nat) (a0_0:ByteArray) (a0_1:Int) (a0_2 a0_3:ByteArray) (a0_4:Bool) (r:ByteArray) (w:World) (h:wT.f k a0_0 a0_1 a0_2 a0_3 a0_4=some r):
  Calls Tryz.prog 89 #[.agg #[.string a0_0,.int .i64 a0_1,.string a0_2,.string a0_3,.bool a0_4]] w fun e w'=>e= .returned (.string r)∧Below w.heap.size w w':=by
 have hu48:=Tryz.underlying48;have HB:=am_ (Below.refl w.heap.size w);have H:(if a0_1=80 then(some (⟨#[]⟩:ByteArray))else((qE.f k a0_1).bind fun t176=>(if 1+t176.size≤9223372036854775807 then(some ((⟨#[58]⟩:ByteArray)++t176))else(none))))=some r:=h;clear h;have HC2:=am_ H;clear H;go_enter Tryz.func89,Tryz.ntmps89
 go_upto_if 5 with(first|((with_reducible refine xF (N:=1) rfl ?_);refine jN (N:=1) (cs:= #[.string a0_0,.int .i64 a0_1,.string a0_2,.string a0_3,.bool a0_4]) (t:=48) ?_;intro gb175 hg w3 hbox hb;have BK175:=am_ (hbox);have GE175:=wQ (w:=w) hg zz0;replace HB:=am_ (kA zz0 hb);clear hb hbox hg;obtain⟨_,_,_,_,_,_,_,_,_,_⟩:=wK BK175.out))
 (try simp only[Act.put,List.setIfInBounds_toArray,List.set_cons_zero,List.set_cons_succ]);have H:=HC2.out;clear HC2
 by_cases c5:a0_1=80
 ·rw[if_pos c5]at H;have c5b0:(a0_1==80)=true:=beq_iff_eq.mpr c5;have c5b1:(a0_1 !=80)=false:=bne_eq_false_iff_eq.mpr c5;clear c5;(first|rw[c5b0]|(simp only[yC,qD];rw[c5b0])|rw[c5b1]|(rw[c5b2];simp only[Bool.not_true,Bool.not_false])|skip);obtain rfl:=si_ H;go_wp2
  go_ret;exact⟨zz1,zz95⟩
 ·rw[if_neg c5]at H;have c5b0:(a0_1==80)=false:=beq_eq_false_iff_ne.mpr c5;have c5b1:(a0_1 !=80)=true:=bne_iff_ne.mpr c5;(first|rw[c5b0]|(simp only[yC,qD];rw[c5b0])|rw[c5b1]|(rw[c5b2];simp only[Bool.not_true,Bool.not_false])|skip);replace H:=be_ H;obtain⟨t176,A60,H⟩:=H;(try dsimp only at H);have A6:=am_ A60;clear A60
  by_cases c7:1+t176.size≤9223372036854775807
  ·rw[if_pos c7]at H;have c7b0:=eq_true c7;have c7b1:=dt_ c7;(try have c7b2:(9223372036854775807<1+t176.size)=False:=eq_false (Nat.not_lt.2 c7));obtain rfl:=si_ H;obtain⟨_,_,_,_,_,_,_,_,_,_⟩:=wK BK175.out;go_wp2_with (first|((with_reducible refine zB (f:=70) rfl ?_);refine jG 8 Tryz.func70 #[.int .i64 a0_1] (qE.calls k a0_1 t176 _ A6.out) ?_;rintro w9 hb;replace BK175:=am_ (qB (by(with_reducible repeat(first|refine zA ?_ _|refine vA ?_|refine jA ?_ _));exact BK175.out) hb);replace HB:=am_ (kA zz95 hb);(try clear hb)))
   go_ret;exact⟨zz1,zz95⟩
  ·rw[if_neg c7]at H;exact absurd H (by simp)
def yS.f (a0_0:ByteArray) (a0_1:Int) (a0_2 a0_3:ByteArray) (a0_4:Bool):Option (ByteArray):=if a0_4=true then(if 1+a0_3.size≤9223372036854775807 then(some ((⟨#[63]⟩:ByteArray)++a0_3))else(none))else(some (⟨#[]⟩:ByteArray))
theorem yS.calls (a0_0:ByteArray) (a0_1:Int) (a0_2 a0_3:ByteArray) (a0_4:Bool) (r:ByteArray) (w:World) (h:yS.f a0_0 a0_1 a0_2 a0_3 a0_4=some r):
  Calls Tryz.prog 90 #[.agg #[.string a0_0,.int .i64 a0_1,.string a0_2,.string a0_3,.bool a0_4]] w fun e w'=>e= .returned (.string r)∧Below w.heap.size w w':=by
 have hu48:=Tryz.underlying48;have HB:=am_ (Below.refl w.heap.size w);have H:(if a0_4=true then(if 1+a0_3.size≤9223372036854775807 then(some ((⟨#[63]⟩:ByteArray)++a0_3))else(none))else(some (⟨#[]⟩:ByteArray)))=some r:=h;clear h;have HC2:=am_ H;clear H;go_enter Tryz.func90,Tryz.ntmps90
 go_upto_if 4 with(first|((with_reducible refine xF (N:=1) rfl ?_);refine jN (N:=1) (cs:= #[.string a0_0,.int .i64 a0_1,.string a0_2,.string a0_3,.bool a0_4]) (t:=48) ?_;intro gb177 hg w3 hbox hb;have BK177:=am_ (hbox);have GE177:=wQ (w:=w) hg zz0;replace HB:=am_ (kA zz0 hb);clear hb hbox hg;obtain⟨_,_,_,_,_,_,_,_,_,_⟩:=wK BK177.out))
 (try simp only[Act.put,List.setIfInBounds_toArray,List.set_cons_zero,List.set_cons_succ]);have H:=HC2.out;clear HC2
 by_cases c5:a0_4=true
 ·subst c5;rw[if_pos rfl]at H
  by_cases c6:1+a0_3.size≤9223372036854775807
  ·rw[if_pos c6]at H;have c6b0:=eq_true c6;have c6b1:=dt_ c6;(try have c6b2:(9223372036854775807<1+a0_3.size)=False:=eq_false (Nat.not_lt.2 c6));obtain rfl:=si_ H;obtain⟨_,_,_,_,_,_,_,_,_,_⟩:=wK BK177.out;go_wp2
   go_ret;exact⟨zz1,zz114⟩
  ·rw[if_neg c6]at H;exact absurd H (by simp)
 ·replace c5:=bf_ c5;subst c5;rw[if_neg ft_]at H;obtain rfl:=si_ H;go_wp2
  go_ret;exact⟨zz1,zz114⟩
def vN.f (k:Nat) (a0_0:ByteArray) (a0_1:Int) (a0_2 a0_3:ByteArray) (a0_4:Bool):Option (ByteArray):=if 7+a0_0.size≤9223372036854775807 then((wT.f k a0_0 a0_1 a0_2 a0_3 a0_4).bind fun t179=>(if((⟨#[104,116,116,112,58,47,47]⟩:ByteArray)++a0_0).size+t179.size≤9223372036854775807 then(if(((⟨#[104,116,116,112,58,47,47]⟩:ByteArray)++a0_0)++t179).size+a0_2.size≤9223372036854775807 then((yS.f a0_0 a0_1 a0_2 a0_3 a0_4).bind fun t180=>(if((((⟨#[104,116,116,112,58,47,47]⟩:ByteArray)++a0_0)++t179)++a0_2).size+t180.size≤9223372036854775807 then(some (((((⟨#[104,116,116,112,58,47,47]⟩:ByteArray)++a0_0)++t179)++a0_2)++t180))else(none)))else(none))else(none)))else(none)
def vN.T1:Bool×List (List Nat×List Nat):=(true,[([],[]),([0],[0]),([1],[1]),([],[]),([3],[3]),([2,4],[2,4]),([],[]),([6],[6]),([5,7],[5,7]),([],[]),([9,4],[9]),([8,10],[8,10]),([11,10,0,1,2,3,4,5,6,7,8,9,10,11],[11])])
def vN.B1:List Nat:= [0,1,3,0,8,31,0,64,255,0,536,2047,4095]
theorem vN.tab1:kU .any (kX Tryz.f127 1)=vN.T1:=by kernel_rfl
theorem vN.bits1:kP vN.T1.2 vN.B1=true:=by kernel_rfl
theorem vN.calls (k:Nat) (a0_0:ByteArray) (a0_1:Int) (a0_2 a0_3:ByteArray) (a0_4:Bool) (r:ByteArray) (w:World) (h:vN.f k a0_0 a0_1 a0_2 a0_3 a0_4=some r):
  Calls Tryz.prog 127 #[.agg #[.string a0_0,.int .i64 a0_1,.string a0_2,.string a0_3,.bool a0_4]] w fun e w'=>e= .returned (.string r)∧Below w.heap.size w w':=by
 have hu48:=Tryz.underlying48;have HB:=am_ (Below.refl w.heap.size w);have H:(if 7+a0_0.size≤9223372036854775807 then((wT.f k a0_0 a0_1 a0_2 a0_3 a0_4).bind fun t179=>(if((⟨#[104,116,116,112,58,47,47]⟩:ByteArray)++a0_0).size+t179.size≤9223372036854775807 then(if(((⟨#[104,116,116,112,58,47,47]⟩:ByteArray)++a0_0)++t179).size+a0_2.size≤9223372036854775807 then((yS.f a0_0 a0_1 a0_2 a0_3 a0_4).bind fun t180=>(if((((⟨#[104,116,116,112,58,47,47]⟩:ByteArray)++a0_0)++t179)++a0_2).size+t180.size≤9223372036854775807 then(some (((((⟨#[104,116,116,112,58,47,47]⟩:ByteArray)++a0_0)++t179)++a0_2)++t180))else(none)))else(none))else(none)))else(none))=some r:=h;clear h
 by_cases c2:7+a0_0.size≤9223372036854775807
 ·rw[if_pos c2]at H;have c2b0:=eq_true c2;have c2b1:=dt_ c2;(try have c2b2:(9223372036854775807<7+a0_0.size)=False:=eq_false (Nat.not_lt.2 c2));replace H:=be_ H;obtain⟨t179,A30,H⟩:=H;(try dsimp only at H);have A3:=am_ A30;clear A30
  by_cases c4:((⟨#[104,116,116,112,58,47,47]⟩:ByteArray)++a0_0).size+t179.size≤9223372036854775807
  ·rw[if_pos c4]at H;have c4b0:=eq_true c4;have c4b1:=dt_ c4;(try have c4b2:(9223372036854775807<((⟨#[104,116,116,112,58,47,47]⟩:ByteArray)++a0_0).size+t179.size)=False:=eq_false (Nat.not_lt.2 c4));try have c4z:=c4b2;simp only[ByteArray.size_append,show(⟨#[104,116,116,112,58,47,47]⟩:ByteArray).size=7 from rfl]at c4z;have c4b3:=c4z
   by_cases c5:(((⟨#[104,116,116,112,58,47,47]⟩:ByteArray)++a0_0)++t179).size+a0_2.size≤9223372036854775807
   ·rw[if_pos c5]at H;have c5b0:=eq_true c5;have c5b1:=dt_ c5;(try have c5b2:(9223372036854775807<(((⟨#[104,116,116,112,58,47,47]⟩:ByteArray)++a0_0)++t179).size+a0_2.size)=False:=eq_false (Nat.not_lt.2 c5));(try have c5z:=c5b2;simp only[ByteArray.size_append,show(⟨#[104,116,116,112,58,47,47]⟩:ByteArray).size=7 from rfl]at c5z;have c5b3:=c5z);replace H:=be_ H;obtain⟨t180,A60,H⟩:=H;(try dsimp only at H);have A6:=am_ A60;clear A60
    by_cases c7:((((⟨#[104,116,116,112,58,47,47]⟩:ByteArray)++a0_0)++t179)++a0_2).size+t180.size≤9223372036854775807
    ·rw[if_pos c7]at H;have c7b0:=eq_true c7;have c7b1:=dt_ c7;(try have c7b2:(9223372036854775807<((((⟨#[104,116,116,112,58,47,47]⟩:ByteArray)++a0_0)++t179)++a0_2).size+t180.size)=False:=eq_false (Nat.not_lt.2 c7));(try have c7z:=c7b2;simp only[ByteArray.size_append,show(⟨#[104,116,116,112,58,47,47]⟩:ByteArray).size=7 from rfl]at c7z;have c7b3:=c7z);obtain rfl:=si_ H;go_enter Tryz.func127,Tryz.ntmps127
     (try go_wp2_with (first|((with_reducible refine xF (N:=1) rfl ?_);refine jN (N:=1) (cs:= #[.string a0_0,.int .i64 a0_1,.string a0_2,.string a0_3,.bool a0_4]) (t:=48) ?_;intro gb178 hg w8 hbox hb;have BK178:=am_ (hbox);have GE178:=wQ (w:=w) hg zz0;replace HB:=am_ (kA zz0 hb);clear hb hbox hg)));have n0_:=am_ (vA BK178.out);have n1_:=am_ (wB HB.out);clear BK178;clear HB;have BK178:=n0_;have HB:=n1_;clear n0_ n1_;refine st_ (n:=13) (S:=fun w'=>w'.cell? ⟨gb178,0,none⟩=some (.string a0_0)∧w'.cell? ⟨gb178,1,none⟩=some (.int .i64 a0_1)∧w'.cell? ⟨gb178,2,none⟩=some (.string a0_2)∧w'.cell? ⟨gb178,3,none⟩=some (.string a0_3)∧w'.cell? ⟨gb178,4,none⟩=some (.bool a0_4)) (ds:= []) ⟨(qA BK178.out 0).trans rfl,(qA BK178.out 1).trans rfl,(qA BK178.out 2).trans rfl,(qA BK178.out 3).trans rfl,(qA BK178.out 4).trans rfl⟩ (fun hHeld=>?_);refine vF vN.tab1 vN.bits1 (fun HT_ HW_=>?_);generalize w8.drew=w9 at BK178 HB hHeld ⊢;refine pz 0 3 ?_;refine pz 6 9 ?_;refine yP 1 4 hHeld ?_;refine pz 2 5 ?_;refine yP 3 6 hHeld ?_;refine yP 7 10 hHeld ?_;refine yP 9 12 hHeld ?_;refine ozZ 4 7 Tryz.func89 #[.agg #[.string a0_0,.int .i64 a0_1,.string a0_2,.string a0_3,.bool a0_4]] (wT.calls k a0_0 a0_1 a0_2 a0_3 a0_4 t179 _ A3.out) (fun K hK=>?_);rintro w10 hb;have n0_:=am_ (qB (by(with_reducible repeat(first|refine zA ?_ _|refine vA ?_|refine jA ?_ _));exact BK178.out) hb);have n1_:=am_ (kA zz94 hb);clear BK178;clear HB;have BK178:=n0_;have HB:=n1_;clear n0_ n1_;(try clear hb);(try clear hb2);(try clear hk);(try clear hi);refine hK.out _ _ ⟨(qA BK178.out 0).trans rfl,(qA BK178.out 1).trans rfl,(qA BK178.out 2).trans rfl,(qA BK178.out 3).trans rfl,(qA BK178.out 4).trans rfl⟩ (fun hHeld=>?_);clear hK K;refine nz ?_;refine pz 5 8 ?_;refine pz 8 11 ?_;refine ozZ 10 13 Tryz.func90 #[.agg #[.string a0_0,.int .i64 a0_1,.string a0_2,.string a0_3,.bool a0_4]] (yS.calls a0_0 a0_1 a0_2 a0_3 a0_4 t180 _ A6.out) (fun K hK=>?_);rintro w11 hb;have n0_:=am_ (qB (by(with_reducible repeat(first|refine zA ?_ _|refine vA ?_|refine jA ?_ _));exact BK178.out) hb);have n1_:=am_ (kA zz94 hb);clear BK178;clear HB;have BK178:=n0_;have HB:=n1_;clear n0_ n1_;(try clear hb);(try clear hb2);(try clear hk);(try clear hi);refine hK.out _ _ ⟨(qA BK178.out 0).trans rfl,(qA BK178.out 1).trans rfl,(qA BK178.out 2).trans rfl,(qA BK178.out 3).trans rfl,(qA BK178.out 4).trans rfl⟩ (fun hHeld=>?_);clear hK K;refine nz ?_;refine pz 11 14 ?_;refine pz 12 2 ?_;refine qP (wJ HT_.out (by kernel_rfl)) ?_;(try go_wp2);go_ret;exact⟨zz1,zz94⟩
    ·rw[if_neg c7]at H;exact absurd H (by simp)
   ·rw[if_neg c5]at H;exact absurd H (by simp)
  ·rw[if_neg c4]at H;exact absurd H (by simp)
 ·rw[if_neg c2]at H;exact absurd H (by simp)
end Go.Proofs.YteojcbbifacpnaaGreatDoor.GFnExactReadLine
