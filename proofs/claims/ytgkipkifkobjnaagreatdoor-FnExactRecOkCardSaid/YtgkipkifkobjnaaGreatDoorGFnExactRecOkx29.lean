-- Printed by gen.py and its programs for this claim.
import Derived.Test.YtgkipkifkobjnaaGreatDoorGFnExactRecOkx0
import Derived.Test.YtgkipkifkobjnaaGreatDoorGFnExactRecOkx17
import Derived.Test.YtgkipkifkobjnaaGreatDoorGFnExactRecOkx24
import Derived.Test.YtgkipkifkobjnaaGreatDoorGFnExactRecOkx27
import Derived.Test.YtgkipkifkobjnaaGreatDoorGFnExactRecOkx28
import Derived.Test.YtgkipkifkobjnaaGreatDoorZFnExactRecOk
namespace Go.Proofs.YtgkipkifkobjnaaGreatDoor.GFnExactRecOk
open Go.RowKit Go.Proofs.YtgkipkifkobjnaaGreatDoorW.PrintWords Go.Proofs.YtgkipkifkobjnaaGreatDoorW.PrintLast Go.Proofs.YtgkipkifkobjnaaGreatDoorW.PrintMore Go.Proofs.YtgkipkifkobjnaaGreatDoorW.Zs
set_option maxHeartbeats 40000000
set_option maxRecDepth 100000
attribute [local go_sem] max2_int min2_int max_two min_two max_three min_three max_four min_four
set_option linter.unusedVariables false
set_option linter.unusedSimpArgs false
def impl_ShaNew.f:Option (List Int×ByteArray×Int):=some ((([1732584193,4023233417,2562383102,271733878,3285377520]:List Int)),(⟨#[]⟩:ByteArray),0)
theorem impl_ShaNew.calls (r1:List Int) (r2:ByteArray) (r3:Int) (w:World) (h:impl_ShaNew.f=some (r1,r2,r3)):
  Calls Tryz.prog 43 #[] w fun e w'=> ∃v0_:Value,e= .returned (.agg #[v0_,.string r2,.int .i64 r3])∧Kd.R (Kd.int .i64) 3 w' w.heap.size (fun _=>True) v0_ r1∧Below w.heap.size w w':=by
 have hu50:=Tryz.underlying50;have HB:=Aside0.mk (Below.refl w.heap.size w);have H:(some ((([1732584193,4023233417,2562383102,271733878,3285377520]:List Int)),(⟨#[]⟩:ByteArray),0))=some (r1,r2,r3):=h;clear h;obtain⟨y517,hy517⟩: ∃y_:List Int,y_=(([1732584193,4023233417,2562383102,271733878,3285377520]:List Int)):=⟨_,rfl⟩;replace H:(some (y517,(⟨#[]⟩:ByteArray),0))=some (r1,r2,r3):=by first|(rw[hy517];with_reducible exact H)|(have H2_:=(Option.bind_some _ _).symm.trans H;rw[hy517];with_reducible exact H2_)|(have H2_:=(Option.bind_some _ _).symm.trans H;with_reducible exact H2_)|with_reducible exact H|(rw[hy517];exact H)|exact H
 have Ny517:=Aside0.mk hy517;clear hy517;simp only[Option.some.injEq,Prod.mk.injEq]at H;obtain⟨rfl,rfl,rfl⟩:=H;go_enter Tryz.func43,Tryz.ntmps43
 go_wp2_with (first|((with_reducible refine gate_dst (N:=0) rfl ?_);refine boxP_ (N:=0) (cs:= #[.slice none 0 0,.string (⟨#[]⟩:ByteArray),.int .i64 0]) (t:=50) ?_;intro gb516 hg w1 hbox hb;have BK516:=Aside0.mk (hbox);have GE516:=geb_ (w:=w) hg zz0;replace HB:=Aside0.mk (below_step zz0 hb);clear hb hbox hg)|((with_reducible refine gate_dst (N:=1) rfl ?_);refine Kd.R_lit (Kd.int .i64) _ 3 ?hg (N:=1) ?hd (xs:=([1732584193,4023233417,2562383102,271733878,3285377520]:List Int)) (inner:= [.int .i64 1732584193,.int .i64 4023233417,.int .i64 2562383102,.int .i64 271733878,.int .i64 3285377520]) (ok:=fun _=>True) (okp:=fun _=>True) ?hr ?hp (fun _ hk=>hk) trivial (Below.refl _ _) (Nat.le_refl _) (by simp) ?_;(case hd=>rfl);(case hg=>rfl);(case hr=>first|(go_simp;done)|(go_simp;rfl));(case hp=>exact(Reps.one (show Kd.M (Kd.int .i64) _ _ _ 1732584193 [.int .i64 1732584193]from rfl) (Reps.one (show Kd.M (Kd.int .i64) _ _ _ 4023233417 [.int .i64 4023233417]from rfl) (Reps.one (show Kd.M (Kd.int .i64) _ _ _ 2562383102 [.int .i64 2562383102]from rfl) (Reps.one (show Kd.M (Kd.int .i64) _ _ _ 271733878 [.int .i64 271733878]from rfl) (Reps.one (show Kd.M (Kd.int .i64) _ _ _ 3285377520 [.int .i64 3285377520]from rfl) (Reps.none _ _)))))));intro v518 w2 ho3 hb hg_ hnew_;clear hg_ hnew_;(first|rw[←Ny517.out]at ho3|(simp only[Int.reduceToNat]at ho3;rw[←Ny517.out]at ho3));have HO519:=Aside0.mk (Kd.R_lower ho3 (below_size zz67));replace BK516:=Aside0.mk (blk_below (by(with_reducible repeat(first|refine blk_drewN ?_ _|refine blk_drew ?_|refine blk_alloc ?_ _));exact BK516.out) hb);replace HB:=Aside0.mk (below_step zz67 hb);clear hb ho3;obtain⟨Ao4,co4,eo4⟩:=Kd.R_slice HO519.out;subst eo4;obtain⟨_,_,_,_,_,_⟩:=cells3_ BK516.out))
 refine bodyPost_ret (results_cell_row rfl _ _ gb516 50 #[.slice Ao4 y517.length co4,.string (⟨#[]⟩:ByteArray),.int .i64 0] (0,0) _ rfl (by(with_reducible repeat(first|refine blk_drewN ?_ _|refine blk_drew ?_|refine blk_alloc ?_ _));refine blk_put (cs:= #[.slice Ao4 y517.length co4,.string (⟨#[]⟩:ByteArray),.int .i64 0]) ?_ 2 _ rfl;(with_reducible repeat(first|refine blk_drewN ?_ _|refine blk_drew ?_|refine blk_alloc ?_ _));refine blk_put (cs:= #[.slice Ao4 y517.length co4,.string (⟨#[]⟩:ByteArray),.int .i64 0]) ?_ 1 _ rfl;(with_reducible repeat(first|refine blk_drewN ?_ _|refine blk_drew ?_|refine blk_alloc ?_ _));refine blk_put (cs:= #[.slice none 0 0,.string (⟨#[]⟩:ByteArray),.int .i64 0]) ?_ 0 _ rfl;(with_reducible repeat(first|refine blk_drewN ?_ _|refine blk_drew ?_|refine blk_alloc ?_ _));exact BK516.out) Tryz.underlying50 rfl (by kernel_rfl)) rfl ?_;exact⟨_,zz2,by(with_reducible repeat(first|apply Kd.R_alloc|apply Kd.R_drewN|apply Kd.R_drew));exact Kd.R_mono (Kd.R_far (p:=⟨gb516,2,none⟩) (Kd.R_far (p:=⟨gb516,1,none⟩) (Kd.R_far (p:=⟨gb516,0,none⟩) (Kd.R_types HO519.out BK516.out (by decide)) (fun _ hk=>hk.2) (.slice Ao4 y517.length co4)) (fun _ hk=>hk.2) (.string (⟨#[]⟩:ByteArray))) (fun _ hk=>hk.2) (.int .i64 0)) (fun _ hk=>trivial),zz67⟩
def impl_Sha1.f (k:Nat) (a0:ByteArray):Option (ByteArray):=(impl_ShaNew.f).bind fun bt520=>((impl_ShaAdd.f k bt520.1 bt520.2.1 bt520.2.2 a0).bind fun bt525=>((impl_ShaEnd.f k bt525.1 bt525.2.1 bt525.2.2).bind fun t530=>(some t530)))
theorem impl_Sha1.calls (k:Nat) (a0 r:ByteArray) (w:World) (h:impl_Sha1.f k a0=some r):
  Calls Tryz.prog 28 #[.string a0] w fun e w'=>e= .returned (.string r)∧Below w.heap.size w w':=by
 have HB:=Aside0.mk (Below.refl w.heap.size w);have H:((impl_ShaNew.f).bind fun bt520=>((impl_ShaAdd.f k bt520.1 bt520.2.1 bt520.2.2 a0).bind fun bt525=>((impl_ShaEnd.f k bt525.1 bt525.2.1 bt525.2.2).bind fun t530=>(some t530))))=some r:=h;clear h;replace H:=Option.bind_eq_some_iff.mp H;obtain⟨⟨t520,t523,t524⟩,A20,H⟩:=H;(try dsimp only at H);have A2:=Aside0.mk A20;clear A20;replace H:=Option.bind_eq_some_iff.mp H;obtain⟨⟨t525,t528,t529⟩,A30,H⟩:=H;(try dsimp only at H);have A3:=Aside0.mk A30;clear A30;replace H:=Option.bind_eq_some_iff.mp H;obtain⟨t530,A40,H⟩:=H;(try dsimp only at H);have A4:=Aside0.mk A40;clear A40;obtain rfl:=Option.some.inj H;go_enter Tryz.func28,Tryz.ntmps28
 go_wp2_with (first|((with_reducible refine gate_callee (f:=43) rfl ?_);refine goesQ_ 3 Tryz.func43 #[] ?_;(with_reducible refine(impl_ShaNew.calls t520 t523 t524 _ A2.out).mono ?_);rintro e w5 ⟨v521,rfl,ho0,hb⟩;refine⟨_,rfl,?_⟩;have HO522:=Aside0.mk (Kd.R_lower ho0 (below_size zz0));replace HB:=Aside0.mk (below_step zz0 hb);(try clear hb);(try clear ho0);obtain⟨Ao6,co6,eo6⟩:=Kd.R_slice HO522.out;subst eo6)|((with_reducible refine gate_callee (f:=42) rfl ?_);refine goesQ_ 5 Tryz.func42 #[.agg #[.slice Ao6 t520.length co6,.string t523,.int .i64 t524],.string a0] ?_;(with_reducible refine(impl_ShaAdd.calls k _ _ t520 t523 t524 a0 t525 t528 t529 _ ?side1 ?side2 A3.out).mono ?_);(case side1=>repeat(first|exact(Kd.R_reads' HO522.out).2.2|(with_reducible refine Kd.C_alloc ?_ _)|(with_reducible refine Kd.C_drewN ?_ _)|(with_reducible refine Kd.C_drew ?_)));(case side2=>exact(Kd.R_reads' HO522.out).2.1);rintro e w7 ⟨v526,rfl,ho0,hb⟩;refine⟨_,rfl,?_⟩;have HO527:=Aside0.mk (Kd.R_lower (Kd.R_new' ho0 (Kd.R_lt zz88)) (below_size zz0));replace HO522:=Aside0.mk (Kd.R_elder' zz88 (Kd.R_base ho0) hb);replace HB:=Aside0.mk (below_step zz0 hb);(try clear hb);(try clear ho0);obtain⟨Ao8,co8,eo8⟩:=Kd.R_slice HO527.out;subst eo8)|((with_reducible refine gate_callee (f:=41) rfl ?_);refine goesQ_ 6 Tryz.func41 #[.agg #[.slice Ao8 t525.length co8,.string t528,.int .i64 t529]] ?_;(with_reducible refine(impl_ShaEnd.calls k (fun k_=>some k_=(.slice Ao8 t525.length co8:Value).ownBlock) _ _ t525 t528 t529 t530 _ ?side1 A4.out).mono ?_);(case side1=>exact Kd.R_V (Kd.R_tight rfl (HO527.out)));rintro e w9 ⟨rfl,hb⟩;refine⟨_,rfl,?_⟩;replace HO522:=Aside0.mk (Kd.R_below zz88 hb);replace HO527:=Aside0.mk (Kd.R_below (by(with_reducible repeat(first|apply Kd.R_alloc|apply Kd.R_drewN|apply Kd.R_drew));exact HO527.out) hb);replace HB:=Aside0.mk (below_step zz0 hb);(try clear hb)))
 go_ret;exact⟨zz2,zz0⟩
def impl_Label.f (k:Nat) (a0:ByteArray):Option (ByteArray):=(impl_Sha1.f k a0).bind fun t531=>((impl_base32.f k t531).bind fun t532=>(if 5+t532.size≤9223372036854775807 then(some ((⟨#[115,104,97,49,58]⟩:ByteArray)++t532))else(none)))
theorem impl_Label.calls (k:Nat) (a0 r:ByteArray) (w:World) (h:impl_Label.f k a0=some r):
  Calls Tryz.prog 18 #[.string a0] w fun e w'=>e= .returned (.string r)∧Below w.heap.size w w':=by
 have HB:=Aside0.mk (Below.refl w.heap.size w);have H:((impl_Sha1.f k a0).bind fun t531=>((impl_base32.f k t531).bind fun t532=>(if 5+t532.size≤9223372036854775807 then(some ((⟨#[115,104,97,49,58]⟩:ByteArray)++t532))else(none))))=some r:=h;clear h;replace H:=Option.bind_eq_some_iff.mp H;obtain⟨t531,A20,H⟩:=H;(try dsimp only at H);have A2:=Aside0.mk A20;clear A20;replace H:=Option.bind_eq_some_iff.mp H;obtain⟨t532,A30,H⟩:=H;(try dsimp only at H);have A3:=Aside0.mk A30;clear A30
 by_cases c4:5+t532.size≤9223372036854775807
 ·rw[if_pos c4]at H;have c4b0:=eq_true c4;have c4b1:decide (5+t532.size≤9223372036854775807)=true:=decide_eq_true c4;(try have c4b2:(9223372036854775807<5+t532.size)=False:=eq_false (Nat.not_lt.2 c4));obtain rfl:=Option.some.inj H;go_enter Tryz.func18,Tryz.ntmps18
  go_wp2_with (first|((with_reducible refine gate_callee (f:=28) rfl ?_);refine goesR_ 4 Tryz.func28 #[.string a0] (impl_Sha1.calls k a0 t531 _ A2.out) ?_;rintro w5 hb;replace HB:=Aside0.mk (below_step zz0 hb);(try clear hb))|((with_reducible refine gate_callee (f:=27) rfl ?_);refine goesR_ 5 Tryz.func27 #[.string t531] (impl_base32.calls k t531 t532 _ A3.out) ?_;rintro w6 hb;replace HB:=Aside0.mk (below_step zz0 hb);(try clear hb)))
  go_ret;exact⟨zz2,zz0⟩
 ·rw[if_neg c4]at H;exact absurd H (by simp)
def stringslite_CutPrefix.f (a0 a1:ByteArray):Option (ByteArray×Bool):=(stringslite_HasPrefix.f a0 a1).bind fun t533=>(if t533=true then(if 0≤(a1.size:Int)then(if(a1.size:Int)≤(a0.size:Int)then(some (a0.extract ((a1.size:Int):Int).toNat a0.size,true))else(none))else(none))else(some (a0,false)))
theorem stringslite_CutPrefix.calls (a0 a1 r1:ByteArray) (r2:Bool) (w:World) (h:stringslite_CutPrefix.f a0 a1=some (r1,r2)):
  Calls Tryz.prog 44 #[.string a0,.string a1] w fun e w'=>e= .returned (.tuple #[.string r1,.bool r2])∧Drawn0 w w':=by
 have H:((stringslite_HasPrefix.f a0 a1).bind fun t533=>(if t533=true then(if 0≤(a1.size:Int)then(if(a1.size:Int)≤(a0.size:Int)then(some (a0.extract ((a1.size:Int):Int).toNat a0.size,true))else(none))else(none))else(some (a0,false))))=some (r1,r2):=h;clear h;replace H:=Option.bind_eq_some_iff.mp H;obtain⟨t533,A30,H⟩:=H;(try dsimp only at H);have A3:=Aside0.mk A30;clear A30;have HC4:=Aside0.mk H;clear H;go_enter Tryz.func44,Tryz.ntmps44
 go_upto_if 9 with(first|((with_reducible refine gate_callee (f:=74) rfl ?_);refine goesR_ 8 Tryz.func74 #[.string a0,.string a1] (stringslite_HasPrefix.calls a0 a1 t533 _ A3.out) ?_;rintro w' ⟨nd,rfl⟩))
 (try simp only[Act.put,List.setIfInBounds_toArray,List.set_cons_zero,List.set_cons_succ]);have H:=HC4.out;clear HC4
 by_cases c5:t533=true
 ·subst c5;rw[if_pos rfl]at H
  by_cases c6:0≤(a1.size:Int)
  ·rw[if_pos c6]at H;have c6b0:=eq_true c6;have c6b1:decide (0≤(a1.size:Int))=true:=decide_eq_true c6;clear c6
   by_cases c7:(a1.size:Int)≤(a0.size:Int)
   ·rw[if_pos c7]at H;have c7b0:=eq_true c7;have c7b1:decide ((a1.size:Int)≤(a0.size:Int))=true:=decide_eq_true c7;clear c7;simp only[Option.some.injEq,Prod.mk.injEq]at H;obtain⟨rfl,rfl⟩:=H;go_wp2
    go_ret2
    exact⟨zz1,zz4⟩
   ·rw[if_neg c7]at H;exact absurd H (by simp)
  ·rw[if_neg c6]at H;exact absurd H (by simp)
 ·replace c5:=Bool.eq_false_iff.mpr c5;subst c5;rw[if_neg Bool.false_ne_true]at H;simp only[Option.some.injEq,Prod.mk.injEq]at H;obtain⟨rfl,rfl⟩:=H;go_wp2
  go_ret2
  exact⟨zz1,zz4⟩
def strings_CutPrefix.f (a0 a1:ByteArray):Option (ByteArray×Bool):=(stringslite_CutPrefix.f a0 a1).bind fun bt534=>(some (bt534.1,bt534.2))
theorem strings_CutPrefix.calls (a0 a1 r1:ByteArray) (r2:Bool) (w:World) (h:strings_CutPrefix.f a0 a1=some (r1,r2)):
  Calls Tryz.prog 29 #[.string a0,.string a1] w fun e w'=>e= .returned (.tuple #[.string r1,.bool r2])∧Drawn0 w w':=by
 have H:((stringslite_CutPrefix.f a0 a1).bind fun bt534=>(some (bt534.1,bt534.2)))=some (r1,r2):=h;clear h;replace H:=Option.bind_eq_some_iff.mp H;obtain⟨⟨t534,t535⟩,A30,H⟩:=H;(try dsimp only at H);have A3:=Aside0.mk A30;clear A30;simp only[Option.some.injEq,Prod.mk.injEq]at H;obtain⟨rfl,rfl⟩:=H;go_enter Tryz.func29,Tryz.ntmps29
 go_wp2_with (first|((with_reducible refine gate_callee (f:=44) rfl ?_);refine goesR_ 8 Tryz.func44 #[.string a0,.string a1] (stringslite_CutPrefix.calls a0 a1 t534 t535 _ A3.out) ?_;rintro w' ⟨nd,rfl⟩))
 go_ret2
 exact⟨zz1,zz4⟩
def impl_ReadBase32.l0:Nat→ByteArray→List Int→Int→Int→Int→Option (ByteArray×Bool)
 |0,_,_,_,_,_=>none
 |k+1,x0,x4,x5,x6,x7=>if x7<(x0.size:Int)then(if 0≤x7 then((strings_IndexByte.f (⟨#[65,66,67,68,69,70,71,72,73,74,75,76,77,78,79,80,81,82,83,84,85,86,87,88,89,90,50,51,52,53,54,55]⟩:ByteArray) (bt x0 x7)).bind fun t537=>(if t537<0 then(some ((⟨#[]⟩:ByteArray),false))else(if(wrap64 (x6+5))≥8 then(if 0≤(wrap64 ((wrap64 (x6+5))-8))then(if x4.length<140737488355328 then(impl_ReadBase32.l0 k x0 (x4++ [(shr .i64 (Go.bits .and .i64 (Go.bits .or .i64 (wrap64 (x5*32)) t537) 4095) (wrap64 ((wrap64 (x6+5))-8)))%256]) (Go.bits .and .i64 (Go.bits .or .i64 (wrap64 (x5*32)) t537) 4095) (wrap64 ((wrap64 (x6+5))-8)) (wrap64 (x7+1)))else(none))else(none))else(impl_ReadBase32.l0 k x0 x4 (Go.bits .and .i64 (Go.bits .or .i64 (wrap64 (x5*32)) t537) 4095) (wrap64 (x6+5)) (wrap64 (x7+1))))))else(none))else(if(x4.length:Int)>4000 then(some ((⟨#[]⟩:ByteArray),false))else((impl_base32.f k (strOfNums x4)).bind fun t536=>(if t536.toList=x0.toList then(some (strOfNums x4,true))else(some ((⟨#[]⟩:ByteArray),false)))))
def impl_ReadBase32.f (k:Nat) (a0:ByteArray):Option (ByteArray×Bool):=impl_ReadBase32.l0 k a0 ([]:List Int) 0 0 0
theorem impl_ReadBase32.calls (k:Nat) (a0 r1:ByteArray) (r2:Bool) (w:World) (h:impl_ReadBase32.f k a0=some (r1,r2)):
  Calls Tryz.prog 30 #[.string a0] w fun e w'=>e= .returned (.tuple #[.string r1,.bool r2])∧Below w.heap.size w w':=by
 have HB:=Aside0.mk (Below.refl w.heap.size w);have H:(impl_ReadBase32.l0 k a0 ([]:List Int) 0 0 0)=some (r1,r2):=h;clear h;have H':=Aside0.mk H;clear H;go_enter Tryz.func30,Tryz.ntmps30
 go_wp2
 go_loopg [4,5,6,7] k (fun kq v4 v5 v6 v7 w'=> ∃(x4_1:List Int) (x5_1 x6_1 x7_1:Int),v5= .int .i64 x5_1∧v6= .int .i64 x6_1∧v7= .int .i64 x7_1∧Aside0 (impl_ReadBase32.l0 kq a0 x4_1 x5_1 x6_1 x7_1=some (r1,r2))∧Aside0 (kq≤k)∧Aside0 (Kd.R (Kd.int .u8) 5 w' w.heap.size (fun _=>True) v4 x4_1)∧Aside0 (Below w.heap.size w w'))
 case atStart=>exact⟨(([]:List Int)),(0),(0),(0),zz1,zz1,zz1,H',⟨Nat.le_refl _⟩,⟨zz21⟩,⟨zz0⟩⟩
 case round=>as_aux_lemma=>
  clear H';obtain⟨x4_1,x5_1,x6_1,x7_1,rfl,rfl,rfl,HA,HK1,HO_4,HB⟩:=hrel
  cases gk with
  |zero=>exact absurd HA.out (by simp[impl_ReadBase32.l0])
  |succ k1=>
   have H:=HA.out;clear HA;simp only[impl_ReadBase32.l0]at H
   by_cases c2:x7_1<(a0.size:Int)
   ·rw[if_pos c2]at H;have c2b0:decide (x7_1<(a0.size:Int))=true:=decide_eq_true c2;clear c2
    by_cases c3:0≤x7_1
    ·rw[if_pos c3]at H;have c3b0:decide (0≤x7_1)=true:=decide_eq_true c3;clear c3;replace H:=Option.bind_eq_some_iff.mp H;obtain⟨t537,A50,H⟩:=H;(try dsimp only at H);have A5:=Aside0.mk A50;clear A50;have HC6:=Aside0.mk H;clear H;have p4:0≤(x7_1:Int):=of_decide_eq_true zz3;have q4:x7_1<(a0.size:Int):=of_decide_eq_true zz3;have hx4:=bt_at a0 x7_1;replace p4:=eq_true p4;replace q4:=eq_true q4;go_upto_if 20 with(first|((with_reducible refine gate_callee (f:=45) rfl ?_);refine goesR_ 18 Tryz.func45 #[.string (⟨#[65,66,67,68,69,70,71,72,73,74,75,76,77,78,79,80,81,82,83,84,85,86,87,88,89,90,50,51,52,53,54,55]⟩:ByteArray),.int .u8 (bt a0 x7_1)] (strings_IndexByte.calls (⟨#[65,66,67,68,69,70,71,72,73,74,75,76,77,78,79,80,81,82,83,84,85,86,87,88,89,90,50,51,52,53,54,55]⟩:ByteArray) (bt a0 x7_1) t537 _ A5.out) ?_;rintro w' ⟨nd,rfl⟩))
     (try simp only[Act.put,List.setIfInBounds_toArray,List.set_cons_zero,List.set_cons_succ]);(try(rw[drewN_self wr];generalize hq_:World.drewN wr _=wr;have n0_:Aside0 (Kd.R (Kd.int .u8) 5 wr w.heap.size (fun _=>True) u4 x4_1):=⟨by rw[←hq_];exact zz28⟩;have n1_:Aside0 (Below w.heap.size w wr):=⟨zz107⟩;clear HO_4 HB hq_;have HO_4:=n0_;have HB:=n1_;clear n0_ n1_));have H:=HC6.out;clear HC6
     by_cases c7:t537<0
     ·rw[if_pos c7]at H;have c7b0:decide (t537<0)=true:=decide_eq_true c7;clear c7;(first|rw[c7b0]|(simp only[i64_w,i32_w];rw[c7b0])|skip);simp only[Option.some.injEq,Prod.mk.injEq]at H;obtain⟨rfl,rfl⟩:=H;go_wp2
      go_ret2
      exact⟨zz2,zz0⟩
     ·rw[if_neg c7]at H;have c7b0:decide (t537<0)=false:=decide_eq_false c7;clear c7;(first|rw[c7b0]|(simp only[i64_w,i32_w];rw[c7b0])|skip)
      by_cases c8:(wrap64 (x6_1+5))≥8
      ·rw[if_pos c8]at H;have c8b0:decide (8≤(wrap64 (x6_1+5)))=true:=decide_eq_true c8;clear c8;obtain⟨ji9,hji9⟩: ∃j_:Int,(wrap64 ((wrap64 (x6_1+5))-8))=j_:=⟨_,rfl⟩;replace H:(if 0≤(ji9)then(if x4_1.length<140737488355328 then(impl_ReadBase32.l0 k1 a0 (x4_1++ [(shr .i64 (Go.bits .and .i64 (Go.bits .or .i64 (wrap64 (x5_1*32)) t537) 4095) (ji9))%256]) (Go.bits .and .i64 (Go.bits .or .i64 (wrap64 (x5_1*32)) t537) 4095) ji9 (wrap64 (x7_1+1)))else(none))else(none))=some (r1,r2):=by first|(rw[hji9]at H;exact H)|(simp only[hji9]at H ⊢;exact H)
       have hji9w:(IntKind.i64.wrap ((wrap64 (x6_1+5))-8))=ji9:=(i64_w _).trans hji9
       by_cases c10:0≤(ji9)
       ·rw[if_pos c10]at H;have c10b0:=eq_true c10;have c10b1:decide (0≤(ji9))=true:=decide_eq_true c10;clear c10;obtain⟨ji11,hji11⟩: ∃j_:Int,(shr .i64 (Go.bits .and .i64 (Go.bits .or .i64 (wrap64 (x5_1*32)) t537) 4095) (ji9))=j_:=⟨_,rfl⟩;replace H:(if x4_1.length<140737488355328 then(impl_ReadBase32.l0 k1 a0 (x4_1++ [(ji11)%256]) (Go.bits .and .i64 (Go.bits .or .i64 (wrap64 (x5_1*32)) t537) 4095) ji9 (wrap64 (x7_1+1)))else(none))=some (r1,r2):=by first|(rw[hji11]at H;exact H)|(simp only[hji11]at H ⊢;exact H)
        have hji11_:((Go.bits .and .i64 (Go.bits .or .i64 (wrap64 (x5_1*32)) t537) 4095)/2^min (ji9).toNat 64)=ji11:=hji11;have hji11z:(ji9)≤64→((Go.bits .and .i64 (Go.bits .or .i64 (wrap64 (x5_1*32)) t537) 4095)/2^(ji9).toNat)=ji11:=shr_small hji11
        by_cases c12:x4_1.length<140737488355328
        ·rw[if_pos c12]at H;have LMc12:=Aside0.mk c12;clear c12;obtain⟨y538,hy538⟩: ∃y_:List Int,y_=(x4_1++ [(ji11)%256]):=⟨_,rfl⟩;replace H:(impl_ReadBase32.l0 k1 a0 y538 (Go.bits .and .i64 (Go.bits .or .i64 (wrap64 (x5_1*32)) t537) 4095) ji9 (wrap64 (x7_1+1)))=some (r1,r2):=by first|(rw[hy538];with_reducible exact H)|(have H2_:=(Option.bind_some _ _).symm.trans H;rw[hy538];with_reducible exact H2_)|(have H2_:=(Option.bind_some _ _).symm.trans H;with_reducible exact H2_)|with_reducible exact H|(rw[hy538];exact H)|exact H
         have Ny538:=Aside0.mk hy538;clear hy538;have H':=Aside0.mk H;clear H;go_wp2_with (first|((with_reducible refine gate_builtin (b:= .append) (xs:= #[.tmp 32,.tmp 37]) rfl ?_);at_builtin;refine Kd.R_append (Kd.int .u8) (w0:=w) w.heap.size rfl (.tmp 32) (.tmp 37) 45 5 (.int .u8 0) 1 rfl Tryz.underlying45 info5 rfl (by decide) (by omega) u4 x4_1 ((ji11)%256) [.int .u8 ((ji11)%256)] (fun _=>True) (fun _=>False) rfl rfl ?aP (fun _ hk=>hk.elim) ?aF ?aO ?aB ?aS ?aL ?_;(case aP=>exact rfl);(case aB=>exact zz0);(case aF=>exact(fun _ _=>trivial));(case aO=>exact zz28);(case aS=>exact(below_size zz0));(case aL=>have:=LMc12.out;omega);intro v539 w13 ho hb hg hat;rw[←Ny538.out]at ho;replace HB:=Aside0.mk (hb);have HO540:=Aside0.mk (ho);clear HO_4;clear ho hb hg hat))
         go_roundg k1
         (case measure=>have:=HK1.out;omega);case rel=>exact⟨(y538),(Go.bits .and .i64 (Go.bits .or .i64 (wrap64 (x5_1*32)) t537) 4095),(ji9),(wrap64 (x7_1+1)),zz1,(by first|rfl|(simp;done)|(simp only[←hji9]<;>(first|rfl|simp))|(simp[*];done)),zz1,H',⟨zz60⟩,⟨by(with_reducible repeat(first|apply Kd.R_alloc|apply Kd.R_drewN|apply Kd.R_drew));exact HO540.out⟩,⟨zz0⟩⟩
        ·rw[if_neg c12]at H;exact absurd H (by simp)
       ·rw[if_neg c10]at H;exact absurd H (by simp)
      ·rw[if_neg c8]at H;have c8b0:decide (8≤(wrap64 (x6_1+5)))=false:=decide_eq_false c8;clear c8;have H':=Aside0.mk H;clear H;go_wp2
       go_roundg k1
       (case measure=>have:=HK1.out;omega);case rel=>exact⟨(x4_1),(Go.bits .and .i64 (Go.bits .or .i64 (wrap64 (x5_1*32)) t537) 4095),(wrap64 (x6_1+5)),(wrap64 (x7_1+1)),zz1,zz1,zz1,H',⟨zz60⟩,⟨zz28⟩,⟨zz0⟩⟩
    ·rw[if_neg c3]at H;exact absurd H (by simp)
   ·rw[if_neg c2]at H;have c2b0:decide (x7_1<(a0.size:Int))=false:=decide_eq_false c2;clear c2;have HC14:=Aside0.mk H;clear H;obtain⟨Ao15,co15,eo15⟩:=Kd.R_slice HO_4.out;subst eo15
    repeat' (first|(go_big_may;(fail))|go_values|go_skip|go_big_skip|go_big_want|((first|(with_reducible refine gate_nog rfl ?_)|(fail_if_success with_reducible refine gate_any ?_));go_step)|go_upon|simp only[Bool.not_true,Bool.not_false,Bool.true_and,Bool.false_and,Bool.true_or,Bool.false_or]|dsimp only)
    have H:=HC14.out;clear HC14
    by_cases c16:(x4_1.length:Int)>4000
    ·rw[if_pos c16]at H;have c16b0:decide (4000<(x4_1.length:Int))=true:=decide_eq_true c16;have c16b1:decide (4000<x4_1.length)=true:=decide_eq_true (by omega);clear c16;(first|rw[c16b0]|(simp only[i64_w,i32_w];rw[c16b0])|rw[c16b1]|(rw[c16b2];simp only[Bool.not_true,Bool.not_false])|skip);simp only[Option.some.injEq,Prod.mk.injEq]at H;obtain⟨rfl,rfl⟩:=H;go_wp2
     go_ret2
     exact⟨zz2,zz0⟩
    ·rw[if_neg c16]at H;have c16b0:decide (4000<(x4_1.length:Int))=false:=decide_eq_false c16;have c16b1:decide (4000<x4_1.length)=false:=decide_eq_false (by omega);clear c16;(first|rw[c16b0]|(simp only[i64_w,i32_w];rw[c16b0])|rw[c16b1]|(rw[c16b2];simp only[Bool.not_true,Bool.not_false])|skip);replace H:=Option.bind_eq_some_iff.mp H;obtain⟨t536,A170,H⟩:=H;(try dsimp only at H);have A17:=Aside0.mk A170;clear A170;have HC18:=Aside0.mk H;clear H;have hcv19:=own_string (P:=Tryz.prog) Tryz.underlying45 Tryz.underlying5 Tryz.underlying9 (Kd.own_of_R HO_4.out);go_upto_if 48 with(first|(go_at_call 27;(with_reducible refine(impl_base32.calls k1 (strOfNums x4_1) t536 _ A17.out).mono ?_);rintro e w20 ⟨rfl,hb⟩;have n0_:=Aside0.mk (Kd.R_below zz28 hb);have n1_:=Aside0.mk (below_step zz0 hb);clear HO_4;clear HB;have HO_4:=n0_;have HB:=n1_;clear n0_ n1_;(try clear hb);(try clear hb2);(try clear hk);(try clear hi)))
     (try simp only[Act.put,List.setIfInBounds_toArray,List.set_cons_zero,List.set_cons_succ]);have H:=HC18.out;clear HC18
     by_cases c21:t536.toList=a0.toList
     ·rw[if_pos c21]at H;have c21b0:(t536.toList==a0.toList)=true:=beq_iff_eq.mpr c21;have c21b1:(t536.toList !=a0.toList)=false:=bne_eq_false_iff_eq.mpr c21;clear c21;(first|rw[c21b0]|(simp only[i64_w,i32_w];rw[c21b0])|rw[c21b1]|(rw[c21b2];simp only[Bool.not_true,Bool.not_false])|skip);simp only[Option.some.injEq,Prod.mk.injEq]at H;obtain⟨rfl,rfl⟩:=H;have hcv22:=own_string (P:=Tryz.prog) Tryz.underlying45 Tryz.underlying5 Tryz.underlying9 (Kd.own_of_R HO_4.out);go_wp2
      go_ret2
      exact⟨zz2,zz0⟩
     ·rw[if_neg c21]at H;have c21b0:(t536.toList==a0.toList)=false:=beq_eq_false_iff_ne.mpr c21;have c21b1:(t536.toList !=a0.toList)=true:=bne_iff_ne.mpr c21;(first|rw[c21b0]|(simp only[i64_w,i32_w];rw[c21b0])|rw[c21b1]|(rw[c21b2];simp only[Bool.not_true,Bool.not_false])|skip);simp only[Option.some.injEq,Prod.mk.injEq]at H;obtain⟨rfl,rfl⟩:=H;go_wp2
      go_ret2
      exact⟨zz2,zz0⟩
def impl_ReadLabel.f (k:Nat) (a0:ByteArray):Option (ByteArray×Bool):=(strings_CutPrefix.f a0 (⟨#[115,104,97,49,58]⟩:ByteArray)).bind fun bt541=>(if bt541.2=true then(if(bt541.1.size:Int)=32 then((impl_ReadBase32.f k bt541.1).bind fun bt543=>(some (bt543.1,bt543.2)))else(some ((⟨#[]⟩:ByteArray),false)))else(some ((⟨#[]⟩:ByteArray),false)))
theorem impl_ReadLabel.calls (k:Nat) (a0 r1:ByteArray) (r2:Bool) (w:World) (h:impl_ReadLabel.f k a0=some (r1,r2)):
  Calls Tryz.prog 19 #[.string a0] w fun e w'=>e= .returned (.tuple #[.string r1,.bool r2])∧Below w.heap.size w w':=by
 have HB:=Aside0.mk (Below.refl w.heap.size w);have H:((strings_CutPrefix.f a0 (⟨#[115,104,97,49,58]⟩:ByteArray)).bind fun bt541=>(if bt541.2=true then(if(bt541.1.size:Int)=32 then((impl_ReadBase32.f k bt541.1).bind fun bt543=>(some (bt543.1,bt543.2)))else(some ((⟨#[]⟩:ByteArray),false)))else(some ((⟨#[]⟩:ByteArray),false))))=some (r1,r2):=h;clear h;replace H:=Option.bind_eq_some_iff.mp H;obtain⟨⟨t541,t542⟩,A20,H⟩:=H;(try dsimp only at H);have A2:=Aside0.mk A20;clear A20
 by_cases c3:t542=true
 ·subst c3;rw[if_pos rfl]at H
  by_cases c4:(t541.size:Int)=32
  ·rw[if_pos c4]at H;have c4b0:((t541.size:Int)==32)=true:=beq_iff_eq.mpr c4;have c4b1:((t541.size:Int)!=32)=false:=bne_eq_false_iff_eq.mpr c4;clear c4;replace H:=Option.bind_eq_some_iff.mp H;obtain⟨⟨t543,t544⟩,A50,H⟩:=H;(try dsimp only at H);have A5:=Aside0.mk A50;clear A50;simp only[Option.some.injEq,Prod.mk.injEq]at H;obtain⟨rfl,rfl⟩:=H;go_enter Tryz.func19,Tryz.ntmps19
   go_wp2_with (first|((with_reducible refine gate_callee (f:=29) rfl ?_);refine goesR_ 8 Tryz.func29 #[.string a0,.string (⟨#[115,104,97,49,58]⟩:ByteArray)] (strings_CutPrefix.calls a0 (⟨#[115,104,97,49,58]⟩:ByteArray) t541 true _ A2.out) ?_;rintro w' ⟨nd,rfl⟩)|((with_reducible refine gate_callee (f:=30) rfl ?_);refine goesR_ 19 Tryz.func30 #[.string t541] (impl_ReadBase32.calls k t541 t543 t544 _ A5.out) ?_;rintro w6 hb;replace HB:=Aside0.mk (below_step zz0 hb);(try clear hb)))
   go_ret2
   exact⟨zz2,zz0⟩
  ·rw[if_neg c4]at H;have c4b0:((t541.size:Int)==32)=false:=beq_eq_false_iff_ne.mpr c4;have c4b1:((t541.size:Int)!=32)=true:=bne_iff_ne.mpr c4;simp only[Option.some.injEq,Prod.mk.injEq]at H;obtain⟨rfl,rfl⟩:=H;go_enter Tryz.func19,Tryz.ntmps19
   go_wp2_with (first|((with_reducible refine gate_callee (f:=29) rfl ?_);refine goesR_ 8 Tryz.func29 #[.string a0,.string (⟨#[115,104,97,49,58]⟩:ByteArray)] (strings_CutPrefix.calls a0 (⟨#[115,104,97,49,58]⟩:ByteArray) t541 true _ A2.out) ?_;rintro w' ⟨nd,rfl⟩))
   go_ret2
   exact⟨zz2,zz0⟩
 ·replace c3:=Bool.eq_false_iff.mpr c3;subst c3;rw[if_neg Bool.false_ne_true]at H;simp only[Option.some.injEq,Prod.mk.injEq]at H;obtain⟨rfl,rfl⟩:=H;go_enter Tryz.func19,Tryz.ntmps19
  go_wp2_with (first|((with_reducible refine gate_callee (f:=29) rfl ?_);refine goesR_ 8 Tryz.func29 #[.string a0,.string (⟨#[115,104,97,49,58]⟩:ByteArray)] (strings_CutPrefix.calls a0 (⟨#[115,104,97,49,58]⟩:ByteArray) t541 false _ A2.out) ?_;rintro w' ⟨nd,rfl⟩))
  go_ret2
  exact⟨zz2,zz0⟩
end Go.Proofs.YtgkipkifkobjnaaGreatDoor.GFnExactRecOk
