-- Printed by gen.py and its programs for this claim.
import Derived.Test.YteojcbbifacpnaaGreatDoorGFnExactLineTextx0
import Derived.Test.YteojcbbifacpnaaGreatDoorZFnExactLineText
namespace Go.Proofs.YteojcbbifacpnaaGreatDoor.GFnExactLineText
open Go.RowKit Go.Proofs.YteojcbbifacpnaaGreatDoorW.PrintWords Go.Proofs.YteojcbbifacpnaaGreatDoorW.PrintLast Go.Proofs.YteojcbbifacpnaaGreatDoorW.PrintMore Go.Proofs.YteojcbbifacpnaaGreatDoorW.Zs
set_option maxHeartbeats 40000000
set_option maxRecDepth 100000
attribute [local go_sem] max2_int min2_int max_two min_two max_three min_three max_four min_four
set_option linter.unusedVariables false
set_option linter.unusedSimpArgs false
def laws_szLine.f (a0_0:ByteArray) (a0_1 a0_2:Int) (a0_3:ByteArray) (a0_4:Int) (a0_5:ByteArray) (a0_6:Bool) (a0_7 a0_8 a0_9 a1:Int):Option (Int):=if(wrap64 (a1-(a0_0.size:Int)))<0 then(some (-1))else(if(wrap64 ((wrap64 (a1-(a0_0.size:Int)))-(a0_3.size:Int)))<0 then(some (-1))else(if(wrap64 ((wrap64 ((wrap64 (a1-(a0_0.size:Int)))-(a0_3.size:Int)))-(a0_5.size:Int)))<0 then(some (-1))else(some (wrap64 ((wrap64 ((wrap64 (a1-(a0_0.size:Int)))-(a0_3.size:Int)))-(a0_5.size:Int))))))
theorem laws_szLine.calls (a0_0:ByteArray) (a0_1 a0_2:Int) (a0_3:ByteArray) (a0_4:Int) (a0_5:ByteArray) (a0_6:Bool) (a0_7 a0_8 a0_9 a1 r:Int) (w:World) (h:laws_szLine.f a0_0 a0_1 a0_2 a0_3 a0_4 a0_5 a0_6 a0_7 a0_8 a0_9 a1=some r):
  Calls Tryz.prog 10 #[.agg #[.string a0_0,.int .i64 a0_1,.int .i64 a0_2,.string a0_3,.int .i64 a0_4,.string a0_5,.bool a0_6,.int .i64 a0_7,.int .i64 a0_8,.int .i64 a0_9],.int .i64 a1] w fun e w'=>e= .returned (.int .i64 r)∧Below w.heap.size w w':=by
 have hu23:=Tryz.underlying23;have HB:=Aside0.mk (Below.refl w.heap.size w);have H:(if(wrap64 (a1-(a0_0.size:Int)))<0 then(some (-1))else(if(wrap64 ((wrap64 (a1-(a0_0.size:Int)))-(a0_3.size:Int)))<0 then(some (-1))else(if(wrap64 ((wrap64 ((wrap64 (a1-(a0_0.size:Int)))-(a0_3.size:Int)))-(a0_5.size:Int)))<0 then(some (-1))else(some (wrap64 ((wrap64 ((wrap64 (a1-(a0_0.size:Int)))-(a0_3.size:Int)))-(a0_5.size:Int)))))))=some r:=h;clear h;have HC3:=Aside0.mk H;clear H;go_enter Tryz.func10,Tryz.ntmps10
 go_upto_if 11 with(first|((with_reducible refine gate_dst (N:=2) rfl ?_);refine boxP_ (N:=2) (cs:= #[.string a0_0,.int .i64 a0_1,.int .i64 a0_2,.string a0_3,.int .i64 a0_4,.string a0_5,.bool a0_6,.int .i64 a0_7,.int .i64 a0_8,.int .i64 a0_9]) (t:=23) ?_;intro gb101 hg w4 hbox hb;have BK101:=Aside0.mk (hbox);have GE101:=geb_ (w:=w) hg zz0;replace HB:=Aside0.mk (below_step zz0 hb);clear hb hbox hg;obtain⟨_,_,_,_,_,_,_,_,_,_,_,_,_,_,_,_,_,_,_,_⟩:=cells10_ BK101.out))
 (try simp only[Act.put,List.setIfInBounds_toArray,List.set_cons_zero,List.set_cons_succ]);have H:=HC3.out;clear HC3
 by_cases c6:(wrap64 (a1-(a0_0.size:Int)))<0
 ·rw[if_pos c6]at H;have c6b0:decide ((wrap64 (a1-(a0_0.size:Int)))<0)=true:=decide_eq_true c6;clear c6;(first|rw[c6b0]|(simp only[i64_w,i32_w];rw[c6b0])|skip);obtain rfl:=Option.some.inj H;go_wp2
  go_ret;exact⟨zz2,zz59⟩
 ·rw[if_neg c6]at H;have c6b0:decide ((wrap64 (a1-(a0_0.size:Int)))<0)=false:=decide_eq_false c6;clear c6;(first|rw[c6b0]|(simp only[i64_w,i32_w];rw[c6b0])|skip)
  by_cases c7:(wrap64 ((wrap64 (a1-(a0_0.size:Int)))-(a0_3.size:Int)))<0
  ·rw[if_pos c7]at H;have c7b0:decide ((wrap64 ((wrap64 (a1-(a0_0.size:Int)))-(a0_3.size:Int)))<0)=true:=decide_eq_true c7;clear c7;obtain rfl:=Option.some.inj H;obtain⟨_,_,_,_,_,_,_,_,_,_,_,_,_,_,_,_,_,_,_,_⟩:=cells10_ BK101.out;go_wp2
   go_ret;exact⟨zz2,zz59⟩
  ·rw[if_neg c7]at H;have c7b0:decide ((wrap64 ((wrap64 (a1-(a0_0.size:Int)))-(a0_3.size:Int)))<0)=false:=decide_eq_false c7;clear c7
   by_cases c9:(wrap64 ((wrap64 ((wrap64 (a1-(a0_0.size:Int)))-(a0_3.size:Int)))-(a0_5.size:Int)))<0
   ·rw[if_pos c9]at H;have c9b0:decide ((wrap64 ((wrap64 ((wrap64 (a1-(a0_0.size:Int)))-(a0_3.size:Int)))-(a0_5.size:Int)))<0)=true:=decide_eq_true c9;clear c9;obtain rfl:=Option.some.inj H;obtain⟨_,_,_,_,_,_,_,_,_,_,_,_,_,_,_,_,_,_,_,_⟩:=cells10_ BK101.out;go_wp2
    go_ret;exact⟨zz2,zz59⟩
   ·rw[if_neg c9]at H;have c9b0:decide ((wrap64 ((wrap64 ((wrap64 (a1-(a0_0.size:Int)))-(a0_3.size:Int)))-(a0_5.size:Int)))<0)=false:=decide_eq_false c9;clear c9;obtain rfl:=Option.some.inj H;obtain⟨_,_,_,_,_,_,_,_,_,_,_,_,_,_,_,_,_,_,_,_⟩:=cells10_ BK101.out;go_wp2
    go_ret;exact⟨zz2,zz59⟩
def laws_toLine.f (a0_0:ByteArray) (a0_1 a0_2:Int) (a0_3:ByteArray) (a0_4:Int) (a0_5:ByteArray) (a0_6:Bool) (a0_7 a0_8 a0_9:Int):Option (ByteArray×Int×Int×ByteArray×Int×ByteArray×Bool×Int×Int×Int):=some (a0_0,a0_1,a0_2,a0_3,a0_4,a0_5,a0_6,a0_7,a0_8,a0_9)
theorem laws_toLine.calls (a0_0:ByteArray) (a0_1 a0_2:Int) (a0_3:ByteArray) (a0_4:Int) (a0_5:ByteArray) (a0_6:Bool) (a0_7 a0_8 a0_9:Int) (r1:ByteArray) (r2 r3:Int) (r4:ByteArray) (r5:Int) (r6:ByteArray) (r7:Bool) (r8 r9 r10:Int) (w:World) (h:laws_toLine.f a0_0 a0_1 a0_2 a0_3 a0_4 a0_5 a0_6 a0_7 a0_8 a0_9=some (r1,r2,r3,r4,r5,r6,r7,r8,r9,r10)):
  Calls Tryz.prog 12 #[.agg #[.string a0_0,.int .i64 a0_1,.int .i64 a0_2,.string a0_3,.int .i64 a0_4,.string a0_5,.bool a0_6,.int .i64 a0_7,.int .i64 a0_8,.int .i64 a0_9]] w fun e w'=>e= .returned (.agg #[.string r1,.int .i64 r2,.int .i64 r3,.string r4,.int .i64 r5,.string r6,.bool r7,.int .i64 r8,.int .i64 r9,.int .i64 r10])∧Below w.heap.size w w':=by
 have hu23:=Tryz.underlying23;have hu26:=Tryz.underlying26;have HB:=Aside0.mk (Below.refl w.heap.size w);have H:(some (a0_0,a0_1,a0_2,a0_3,a0_4,a0_5,a0_6,a0_7,a0_8,a0_9))=some (r1,r2,r3,r4,r5,r6,r7,r8,r9,r10):=h;clear h;simp only[Option.some.injEq,Prod.mk.injEq]at H;obtain⟨rfl,rfl,rfl,rfl,rfl,rfl,rfl,rfl,rfl,rfl⟩:=H;go_enter Tryz.func12,Tryz.ntmps12
 go_wp2_with (first|((with_reducible refine gate_dst (N:=1) rfl ?_);refine boxP_ (N:=1) (cs:= #[.string a0_0,.int .i64 a0_1,.int .i64 a0_2,.string a0_3,.int .i64 a0_4,.string a0_5,.bool a0_6,.int .i64 a0_7,.int .i64 a0_8,.int .i64 a0_9]) (t:=23) ?_;intro gb102 hg w2 hbox hb;have BK102:=Aside0.mk (hbox);have GE102:=geb_ (w:=w) hg zz0;replace HB:=Aside0.mk (below_step zz0 hb);clear hb hbox hg)|((with_reducible refine gate_dst (N:=2) rfl ?_);refine boxP_ (N:=2) (cs:= #[.string (⟨#[]⟩:ByteArray),.int .i64 0,.int .i64 0,.string (⟨#[]⟩:ByteArray),.int .i64 0,.string (⟨#[]⟩:ByteArray),.bool false,.int .i64 0,.int .i64 0,.int .i64 0]) (t:=26) ?_;intro gb103 hg w3 hbox hb;have BK103:=Aside0.mk (hbox);have GE103:=geb_ (w:=w) hg zz98;replace HB:=Aside0.mk (below_step zz98 hb);have NB102_103:=nbL_ (g:=gb102) hg zz49;have NB103_102:=nbG_ (g:=gb102) hg zz49;replace BK102:=Aside0.mk (blk_below zz49 hb);clear hb hbox hg)|((with_reducible refine gate_dst (N:=3) rfl ?_);refine boxP_ (N:=3) (cs:= #[.string (⟨#[]⟩:ByteArray),.int .i64 0,.int .i64 0,.string (⟨#[]⟩:ByteArray),.int .i64 0,.string (⟨#[]⟩:ByteArray),.bool false,.int .i64 0,.int .i64 0,.int .i64 0]) (t:=26) ?_;intro gb104 hg w4 hbox hb;have BK104:=Aside0.mk (hbox);have GE104:=geb_ (w:=w) hg zz91;replace HB:=Aside0.mk (below_step zz91 hb);have NB102_104:=nbL_ (g:=gb102) hg zz49;have NB104_102:=nbG_ (g:=gb102) hg zz49;replace BK102:=Aside0.mk (blk_below zz49 hb);have NB103_104:=nbL_ (g:=gb103) hg zz86;have NB104_103:=nbG_ (g:=gb103) hg zz86;replace BK103:=Aside0.mk (blk_below zz86 hb);clear hb hbox hg;have hnb5:=NB102_103.out;have hnc5:=NB103_102.out;have hnb6:=NB102_104.out;have hnc6:=NB104_102.out;obtain⟨_,_,_,_,_,_,_,_,_,_,_,_,_,_,_,_,_,_,_,_⟩:=cells10_ BK102.out;have hnb8:=NB104_103.out;have hnc8:=NB103_104.out;obtain⟨_,_,_,_,_,_,_,_,_,_,_,_,_,_,_,_,_,_,_,_⟩:=cells10_ BK104.out;obtain⟨_,_,_,_,_,_,_,_,_,_,_,_,_,_,_,_,_,_,_,_⟩:=cells10_ BK103.out))
 refine bodyPost_ret (results_cell_row rfl _ _ gb103 26 #[.string a0_0,.int .i64 a0_1,.int .i64 a0_2,.string a0_3,.int .i64 a0_4,.string a0_5,.bool a0_6,.int .i64 a0_7,.int .i64 a0_8,.int .i64 a0_9] (0,0) _ rfl (by(with_reducible repeat(first|refine blk_drewN ?_ _|refine blk_drew ?_|refine blk_alloc ?_ _));refine blk_put (cs:= #[.string a0_0,.int .i64 a0_1,.int .i64 a0_2,.string a0_3,.int .i64 a0_4,.string a0_5,.bool a0_6,.int .i64 a0_7,.int .i64 a0_8,.int .i64 0]) ?_ 9 _ rfl;(with_reducible repeat(first|refine blk_drewN ?_ _|refine blk_drew ?_|refine blk_alloc ?_ _));refine blk_put (cs:= #[.string a0_0,.int .i64 a0_1,.int .i64 a0_2,.string a0_3,.int .i64 a0_4,.string a0_5,.bool a0_6,.int .i64 a0_7,.int .i64 0,.int .i64 0]) ?_ 8 _ rfl;(with_reducible repeat(first|refine blk_drewN ?_ _|refine blk_drew ?_|refine blk_alloc ?_ _));refine blk_put (cs:= #[.string a0_0,.int .i64 a0_1,.int .i64 a0_2,.string a0_3,.int .i64 a0_4,.string a0_5,.bool a0_6,.int .i64 0,.int .i64 0,.int .i64 0]) ?_ 7 _ rfl;(with_reducible repeat(first|refine blk_drewN ?_ _|refine blk_drew ?_|refine blk_alloc ?_ _));refine blk_put (cs:= #[.string a0_0,.int .i64 a0_1,.int .i64 a0_2,.string a0_3,.int .i64 a0_4,.string a0_5,.bool false,.int .i64 0,.int .i64 0,.int .i64 0]) ?_ 6 _ rfl;(with_reducible repeat(first|refine blk_drewN ?_ _|refine blk_drew ?_|refine blk_alloc ?_ _));refine blk_put (cs:= #[.string a0_0,.int .i64 a0_1,.int .i64 a0_2,.string a0_3,.int .i64 a0_4,.string (⟨#[]⟩:ByteArray),.bool false,.int .i64 0,.int .i64 0,.int .i64 0]) ?_ 5 _ rfl;(with_reducible repeat(first|refine blk_drewN ?_ _|refine blk_drew ?_|refine blk_alloc ?_ _));refine blk_put (cs:= #[.string a0_0,.int .i64 a0_1,.int .i64 a0_2,.string a0_3,.int .i64 0,.string (⟨#[]⟩:ByteArray),.bool false,.int .i64 0,.int .i64 0,.int .i64 0]) ?_ 4 _ rfl;(with_reducible repeat(first|refine blk_drewN ?_ _|refine blk_drew ?_|refine blk_alloc ?_ _));refine blk_put (cs:= #[.string a0_0,.int .i64 a0_1,.int .i64 a0_2,.string (⟨#[]⟩:ByteArray),.int .i64 0,.string (⟨#[]⟩:ByteArray),.bool false,.int .i64 0,.int .i64 0,.int .i64 0]) ?_ 3 _ rfl;(with_reducible repeat(first|refine blk_drewN ?_ _|refine blk_drew ?_|refine blk_alloc ?_ _));refine blk_put (cs:= #[.string a0_0,.int .i64 a0_1,.int .i64 0,.string (⟨#[]⟩:ByteArray),.int .i64 0,.string (⟨#[]⟩:ByteArray),.bool false,.int .i64 0,.int .i64 0,.int .i64 0]) ?_ 2 _ rfl;(with_reducible repeat(first|refine blk_drewN ?_ _|refine blk_drew ?_|refine blk_alloc ?_ _));refine blk_put (cs:= #[.string a0_0,.int .i64 0,.int .i64 0,.string (⟨#[]⟩:ByteArray),.int .i64 0,.string (⟨#[]⟩:ByteArray),.bool false,.int .i64 0,.int .i64 0,.int .i64 0]) ?_ 1 _ rfl;(with_reducible repeat(first|refine blk_drewN ?_ _|refine blk_drew ?_|refine blk_alloc ?_ _));refine blk_put (cs:= #[.string (⟨#[]⟩:ByteArray),.int .i64 0,.int .i64 0,.string (⟨#[]⟩:ByteArray),.int .i64 0,.string (⟨#[]⟩:ByteArray),.bool false,.int .i64 0,.int .i64 0,.int .i64 0]) ?_ 0 _ rfl;(iterate 10 ((with_reducible repeat(first|refine blk_drewN ?_ _|refine blk_drew ?_|refine blk_alloc ?_ _));refine blk_far ?_ NB103_104.out _));(with_reducible repeat(first|refine blk_drewN ?_ _|refine blk_drew ?_|refine blk_alloc ?_ _));exact BK103.out) Tryz.underlying26 rfl (by kernel_rfl)) rfl ?_;exact⟨zz2,by repeat(first|(with_reducible first|exact HB.out|apply below_alloc|apply pw_below_drewN|apply below_drew1|refine below_set ?_ GE102.out|refine below_set ?_ GE103.out|refine below_set ?_ GE104.out)|exact HB.out)⟩
mutual
def spec_DecText.j0:Nat→Int→Bool→Option (ByteArray)
 |0,_,_=>none
 |k+1,x0,x8=>if x8=true then(some (⟨#[]⟩:ByteArray))else(if x0<10 then(some (strOfNums (([(wrap64 (48+x0))%256]:List Int))))else((spec_DecText.f k (wrap64 (Int.tdiv x0 10))).bind fun t108=>((some (([(wrap64 (48+(Int.tmod x0 10)))%256]:List Int):List Int)).bind fun y109=>(if t108.size+(strOfNums y109).size≤9223372036854775807 then(some (t108++(strOfNums y109)))else(none)))))
def spec_DecText.f:Nat→Int→Option (ByteArray)
 |0,_=>none
 |k+1,a0=>if a0<0 then(spec_DecText.j0 k a0 true)else(spec_DecText.j0 k a0 (decide (a0>999999999999999)))
end
def spec_DecText.T5:Bool×List (List Nat×List Nat):=(true,[([],[]),([0],[0]),([1],[1]),([],[]),([3],[3]),([4],[4]),([5],[5]),([6],[6]),([7],[7]),([2,8],[2,8]),([9,2,0,1,2,3,4,5,6,7,8,9],[9])])
def spec_DecText.B5:List Nat:= [0,1,3,0,8,24,56,120,248,511,1023]
theorem spec_DecText.tab5:rtab .any (opsOf Tryz.f70 5)=spec_DecText.T5:=by kernel_rfl
theorem spec_DecText.bits5:waitsOk spec_DecText.T5.2 spec_DecText.B5=true:=by kernel_rfl
theorem spec_DecText.calls (k:Nat): ∀(a0:Int) (r:ByteArray) (w:World) (h:spec_DecText.f k a0=some r),
  Calls Tryz.prog 70 #[.int .i64 a0] w fun e w'=>e= .returned (.string r)∧Below w.heap.size w w':=by
 induction k using Nat.strongRecOn with
 |_ k ih=>
 intro a0 r w h
 cases k with
 |zero=>exact absurd h (by simp[spec_DecText.f])
 |succ k=>
 simp only[spec_DecText.f]at h;have HB:=Aside0.mk (Below.refl w.heap.size w);have H:(if a0<0 then(spec_DecText.j0 k a0 true)else(spec_DecText.j0 k a0 (decide (a0>999999999999999))))=some r:=h;clear h;have HC2:=Aside0.mk H;clear H;go_enter Tryz.func70,Tryz.ntmps70
 go_upto_region 1 with(fail)
 go_cut [8] (fun v8 wc=> ∃(kq:Nat) (x8_1:Bool),v8= .bool x8_1∧Aside0 (spec_DecText.j0 kq a0 x8_1=some r)∧Aside0 (kq≤k)∧Aside0 (Below w.heap.size w wc))
 case first=>
  have H:=HC2.out;clear HC2
  by_cases c3:a0<0
  ·rw[if_pos c3]at H;have c3b0:decide (a0<0)=true:=decide_eq_true c3;clear c3;(first|rw[c3b0]|(simp only[i64_w,i32_w];rw[c3b0])|skip);have H':=Aside0.mk H;clear H;go_wp2
   go_meet
   case rel=>exact⟨_,(true),zz1,H',⟨zz19⟩,⟨zz0⟩⟩
  ·rw[if_neg c3]at H;have c3b0:decide (a0<0)=false:=decide_eq_false c3;clear c3;(first|rw[c3b0]|(simp only[i64_w,i32_w];rw[c3b0])|skip);have H':=Aside0.mk H;clear H;go_wp2
   go_meet
   case rel=>exact⟨_,(decide (a0>999999999999999)),zz1,H',⟨zz19⟩,⟨zz0⟩⟩
 case rest=>
  clear HC2;(try clear p2);(try clear c3);(try clear c3b0);obtain⟨kq,x8_1,rfl,HA,HJ1,HB⟩:=hcut
  cases kq with
  |zero=>exact absurd HA.out (by simp[spec_DecText.j0])
  |succ kj1=>
   have H:=HA.out;clear HA;simp only[spec_DecText.j0]at H
   by_cases c4:x8_1=true
   ·subst c4;rw[if_pos rfl]at H;obtain rfl:=Option.some.inj H;go_wp2
    go_ret;exact⟨zz2,zz0⟩
   ·replace c4:=Bool.eq_false_iff.mpr c4;subst c4;rw[if_neg Bool.false_ne_true]at H
    by_cases c5:a0<10
    ·rw[if_pos c5]at H;have c5b0:decide (a0<10)=true:=decide_eq_true c5;clear c5;obtain⟨y105,hy105⟩: ∃y_:List Int,y_=(([(wrap64 (48+a0))%256]:List Int)):=⟨_,rfl⟩;replace H:(some (strOfNums y105))=some r:=by first|(rw[hy105];with_reducible exact H)|(have H2_:=(Option.bind_some _ _).symm.trans H;rw[hy105];with_reducible exact H2_)|(have H2_:=(Option.bind_some _ _).symm.trans H;with_reducible exact H2_)|with_reducible exact H|(rw[hy105];exact H)|exact H
     have Ny105:=Aside0.mk hy105;clear hy105;obtain rfl:=Option.some.inj H;go_wp2_with (first|((with_reducible refine gate_dst (N:=14) rfl ?_);refine Kd.R_lit (Kd.int .u8) _ 5 ?hg (N:=14) ?hd (xs:=([(wrap64 (48+a0))%256]:List Int)) (inner:= [.int .u8 ((wrap64 (48+a0))%256)]) (ok:=fun _=>True) (okp:=fun _=>True) ?hr ?hp (fun _ hk=>hk) trivial (Below.refl _ _) (Nat.le_refl _) (by simp) ?_;(case hd=>rfl);(case hg=>rfl);(case hr=>first|(go_simp;done)|(go_simp;rfl));(case hp=>exact(Reps.one (show Kd.M (Kd.int .u8) _ _ _ ((wrap64 (48+a0))%256) [.int .u8 ((wrap64 (48+a0))%256)]from rfl) (Reps.none _ _)));intro v106 w6 ho7 hb hg_ hnew_;clear hg_ hnew_;(first|rw[←Ny105.out]at ho7|(simp only[Int.reduceToNat]at ho7;rw[←Ny105.out]at ho7));have HO107:=Aside0.mk (Kd.R_lower ho7 (below_size zz0));replace HB:=Aside0.mk (below_step zz0 hb);clear hb ho7;have hcv8:=own_string (P:=Tryz.prog) Tryz.underlying63 Tryz.underlying5 Tryz.underlying9 (Kd.own_of_R HO107.out)))
     go_ret;exact⟨zz2,zz0⟩
    ·rw[if_neg c5]at H;have c5b0:decide (a0<10)=false:=decide_eq_false c5;clear c5;replace H:=Option.bind_eq_some_iff.mp H;obtain⟨t108,A90,H⟩:=H;(try dsimp only at H);have A9:=Aside0.mk A90;clear A90;obtain⟨y109,hy109⟩: ∃y_:List Int,y_=(([(wrap64 (48+(Int.tmod a0 10)))%256]:List Int)):=⟨_,rfl⟩;replace H:(if t108.size+(strOfNums y109).size≤9223372036854775807 then(some (t108++(strOfNums y109)))else(none))=some r:=by first|(rw[hy109];with_reducible exact H)|(have H2_:=(Option.bind_some _ _).symm.trans H;rw[hy109];with_reducible exact H2_)|(have H2_:=(Option.bind_some _ _).symm.trans H;with_reducible exact H2_)|with_reducible exact H|(rw[hy109];exact H)|exact H
     have Ny109:=Aside0.mk hy109;clear hy109
     by_cases c10:t108.size+(strOfNums y109).size≤9223372036854775807
     ·rw[if_pos c10]at H;have c10b0:=eq_true c10;have c10b1:decide (t108.size+(strOfNums y109).size≤9223372036854775807)=true:=decide_eq_true c10;(try have c10b2:(9223372036854775807<t108.size+(strOfNums y109).size)=False:=eq_false (Nat.not_lt.2 c10));obtain rfl:=Option.some.inj H;(try go_wp2);replace HB:=Aside0.mk (below_drew1 HB.out);refine st_ (n:=11) (S:=fun w'=>True) (ds:= []) trivial (fun hHeld=>?_);refine with_tabW spec_DecText.tab5 spec_DecText.bits5 (fun HT_ HW_=>?_);generalize wc.drew=w11 at HB hHeld ⊢;refine pz 0 16 ?_;refine pz 1 17 ?_;refine pz 3 19 ?_;refine pz 4 20 ?_;refine pz 5 21 ?_;refine pz 6 22 ?_;refine join_ (σ:=Value) 2 #[true,true,true,true,true,true,true,true,true,false,false] (fun s_=> [(18,.string t108),(23,s_),(24,.string (strOfNums y109))]) (fun s_ w'=>(Kd.R (Kd.int .u8) 5 w' w.heap.size (fun _=>True) s_ y109)∧(Below w.heap.size w w')) ?_ ?_;rotate_left
      ·intro hCont;refine two_ (i:=2) (j:=7) (Ni:=some 18) (Nj:=some 23) #[true,true,true,true,true,true,true,false,false,false,false] #[true,true,false,true,true,true,true,true,false,false,false] rfl rfl rfl rfl (two_of HT_.out (by kernel_rfl)) (by decide) (by decide) (fun K hK=>?_) (fun K hK=>?_)
       ·skip
        refine goZ Tryz.func70 #[.int .i64 (wrap64 (Int.tdiv a0 10))] (ih kj1 (by have:=HJ1.out;omega) (wrap64 (Int.tdiv a0 10)) t108 _ A9.out) ?_;rintro w12 hb;replace HB:=Aside0.mk (below_step zz0 hb);(try clear hb);(try clear hb2);(try clear hk);(try clear hi);refine hK.out _ _ trivial (fun hHeld=>?_);clear hK K;refine nz ?_;refine oz 7 23 (fun K hK=>?_);refine Kd.R_lit_step (Kd.int .u8) _ 5 ?hg (N:=23) ?hd (xs:=([(wrap64 (48+(Int.tmod a0 10)))%256]:List Int)) (inner:= [.int .u8 ((wrap64 (48+(Int.tmod a0 10)))%256)]) (ok:=fun _=>True) (okp:=fun _=>True) ?hr ?hp (fun _ hk=>hk) trivial (Below.refl _ _) (Nat.le_refl _) (by simp) ?_;(case hd=>rfl);(case hg=>rfl);(case hr=>first|(go_simp;done)|(go_simp;rfl));(case hp=>exact(Reps.one (show Kd.M (Kd.int .u8) _ _ _ ((wrap64 (48+(Int.tmod a0 10)))%256) [.int .u8 ((wrap64 (48+(Int.tmod a0 10)))%256)]from rfl) (Reps.none _ _)));intro v110 w13 ho14 hb hg_ hnew_;clear hg_ hnew_;(first|rw[←Ny109.out]at ho14|(simp only[Int.reduceToNat]at ho14;rw[←Ny109.out]at ho14));have HO111:=Aside0.mk (Kd.R_lower ho14 (below_size zz0));replace HB:=Aside0.mk (below_step zz0 hb);clear hb ho14;refine hK.out _ _ trivial (fun hHeld=>?_);clear hK K;refine nz ?_;refine oz 8 24 (fun K hK=>?_);have hcv15:=own_string (P:=Tryz.prog) Tryz.underlying63 Tryz.underlying5 Tryz.underlying9 (Kd.own_of_R HO111.out);refine value_ (w1:=?_) (v:=?_) (by rfl) rfl ?_ ?_;rotate_left 2
        ·go_simp;constructor
         ·rfl
         ·rfl
        clear hcv15;refine hK.out _ _ trivial (fun hHeld=>?_);clear hK K;refine nz ?_;exact norm_ (by first|(simp only[putAll,Act.put,List.setIfInBounds_toArray,List.set_cons_zero,List.set_cons_succ];done)|(simp only[putAll,Act.put,List.setIfInBounds_toArray,List.set_cons_zero,List.set_cons_succ];rfl)) (hCont (v110) _ ⟨zz63,zz0⟩)
       ·skip
        refine Kd.R_lit_step (Kd.int .u8) _ 5 ?hg (N:=23) ?hd (xs:=([(wrap64 (48+(Int.tmod a0 10)))%256]:List Int)) (inner:= [.int .u8 ((wrap64 (48+(Int.tmod a0 10)))%256)]) (ok:=fun _=>True) (okp:=fun _=>True) ?hr ?hp (fun _ hk=>hk) trivial (Below.refl _ _) (Nat.le_refl _) (by simp) ?_;(case hd=>rfl);(case hg=>rfl);(case hr=>first|(go_simp;done)|(go_simp;rfl));(case hp=>exact(Reps.one (show Kd.M (Kd.int .u8) _ _ _ ((wrap64 (48+(Int.tmod a0 10)))%256) [.int .u8 ((wrap64 (48+(Int.tmod a0 10)))%256)]from rfl) (Reps.none _ _)));intro v110 w12 ho13 hb hg_ hnew_;clear hg_ hnew_;(first|rw[←Ny109.out]at ho13|(simp only[Int.reduceToNat]at ho13;rw[←Ny109.out]at ho13));have HO111:=Aside0.mk (Kd.R_lower ho13 (below_size zz0));replace HB:=Aside0.mk (below_step zz0 hb);clear hb ho13;refine hK.out _ _ trivial (fun hHeld=>?_);clear hK K;refine nz ?_;refine two_ (i:=2) (j:=8) (Ni:=some 18) (Nj:=some 24) #[true,true,true,true,true,true,true,true,false,false,false] #[true,true,false,true,true,true,true,true,true,false,false] rfl rfl rfl rfl (two_of HT_.out (by kernel_rfl)) (by decide) (by decide) (fun K hK=>?_) (fun K hK=>?_)
        ·skip
         refine goZ Tryz.func70 #[.int .i64 (wrap64 (Int.tdiv a0 10))] (ih kj1 (by have:=HJ1.out;omega) (wrap64 (Int.tdiv a0 10)) t108 _ A9.out) ?_;rintro w14 hb;replace HO111:=Aside0.mk (Kd.R_below zz63 hb);replace HB:=Aside0.mk (below_step zz0 hb);(try clear hb);(try clear hb2);(try clear hk);(try clear hi);refine hK.out _ _ trivial (fun hHeld=>?_);clear hK K;refine nz ?_;refine oz 8 24 (fun K hK=>?_);have hcv15:=own_string (P:=Tryz.prog) Tryz.underlying63 Tryz.underlying5 Tryz.underlying9 (Kd.own_of_R HO111.out);refine value_ (w1:=?_) (v:=?_) (by rfl) rfl ?_ ?_;rotate_left 2
         ·go_simp;constructor
          ·rfl
          ·rfl
         clear hcv15;refine hK.out _ _ trivial (fun hHeld=>?_);clear hK K;refine nz ?_;exact norm_ (by first|(simp only[putAll,Act.put,List.setIfInBounds_toArray,List.set_cons_zero,List.set_cons_succ];done)|(simp only[putAll,Act.put,List.setIfInBounds_toArray,List.set_cons_zero,List.set_cons_succ];rfl)) (hCont (v110) _ ⟨zz63,zz0⟩)
        ·skip
         have hcv14:=own_string (P:=Tryz.prog) Tryz.underlying63 Tryz.underlying5 Tryz.underlying9 (Kd.own_of_R HO111.out);refine value_ (w1:=?_) (v:=?_) (by rfl) rfl ?_ ?_;rotate_left 2
         ·go_simp;constructor
          ·rfl
          ·rfl
         clear hcv14;refine hK.out _ _ trivial (fun hHeld=>?_);clear hK K;refine nz ?_;refine ozZ 2 18 Tryz.func70 #[.int .i64 (wrap64 (Int.tdiv a0 10))] (ih kj1 (by have:=HJ1.out;omega) (wrap64 (Int.tdiv a0 10)) t108 _ A9.out) (fun K hK=>?_);rintro w15 hb;replace HO111:=Aside0.mk (Kd.R_below zz63 hb);replace HB:=Aside0.mk (below_step zz0 hb);(try clear hb);(try clear hb2);(try clear hk);(try clear hi);refine hK.out _ _ trivial (fun hHeld=>?_);clear hK K;refine nz ?_;exact norm_ (by first|(simp only[putAll,Act.put,List.setIfInBounds_toArray,List.set_cons_zero,List.set_cons_succ];done)|(simp only[putAll,Act.put,List.setIfInBounds_toArray,List.set_cons_zero,List.set_cons_succ];rfl)) (hCont (v110) _ ⟨zz63,zz0⟩)
      rintro v110 w16 ⟨h0_,h1_⟩;have n0_:Aside0 (Kd.R (Kd.int .u8) 5 w16 w.heap.size (fun _=>True) v110 y109):=⟨h0_⟩;have n1_:Aside0 (Below w.heap.size w w16):=⟨h1_⟩;clear HB;clear h0_ h1_;have HO111:=n0_;have HB:=n1_;clear n0_ n1_;have hHeld:=trivial;refine norm_ (a':=?_) ?_ ?_;rotate_left
      ·simp only[putAll,Act.put,List.setIfInBounds_toArray,List.set_cons_zero,List.set_cons_succ];rfl
      refine pz 9 25 ?_;refine pz 10 2 ?_;refine done_ (done_of HT_.out (by kernel_rfl)) ?_;(try go_wp2);go_ret;exact⟨zz2,zz0⟩
     ·rw[if_neg c10]at H;exact absurd H (by simp)
def spec_l1digit.f (a0:Int):Option (Bool):=if a0≥48 then(some (decide (a0≤57)))else(some false)
theorem spec_l1digit.calls (a0:Int) (r:Bool) (w:World) (h:spec_l1digit.f a0=some r):
  Calls Tryz.prog 79 #[.int .u8 a0] w fun e w'=>e= .returned (.bool r)∧Drawn0 w w':=by
 have H:(if a0≥48 then(some (decide (a0≤57)))else(some false))=some r:=h;clear h
 by_cases c2:a0≥48
 ·rw[if_pos c2]at H;have c2b0:decide (48≤a0)=true:=decide_eq_true c2;clear c2;obtain rfl:=Option.some.inj H;go_enter Tryz.func79,Tryz.ntmps79
  go_wp2
  go_ret;exact⟨zz1,zz3⟩
 ·rw[if_neg c2]at H;have c2b0:decide (48≤a0)=false:=decide_eq_false c2;clear c2;obtain rfl:=Option.some.inj H;go_enter Tryz.func79,Tryz.ntmps79
  go_wp2
  go_ret;exact⟨zz1,zz3⟩
mutual
def spec_ReadDec.j0:Nat→ByteArray→Bool→Option (Int×Bool)
 |0,_,_=>none
 |k+1,x0,x13=>if x13=true then(some (0,false))else(spec_ReadDec.l0 k x0 0 0)
def spec_ReadDec.l0:Nat→ByteArray→Int→Int→Option (Int×Bool)
 |0,_,_,_=>none
 |k+1,x0,x4,x5=>if x5<(x0.size:Int)then(if 0≤x5 then((spec_l1digit.f (bt x0 x5)).bind fun t112=>(if t112=true then(spec_ReadDec.l0 k x0 (wrap64 ((wrap64 (x4*10))+(((bt x0 x5)-48)%256))) (wrap64 (x5+1)))else(some (0,false))))else(none))else((spec_DecText.f k x4).bind fun t113=>(if t113.toList=x0.toList then(some (x4,true))else(some (0,false))))
end
def spec_ReadDec.f (k:Nat) (a0:ByteArray):Option (Int×Bool):=if(a0.size:Int)=0 then(spec_ReadDec.j0 k a0 true)else(spec_ReadDec.j0 k a0 (decide ((a0.size:Int)>15)))
theorem spec_ReadDec.calls (k:Nat) (a0:ByteArray) (r1:Int) (r2:Bool) (w:World) (h:spec_ReadDec.f k a0=some (r1,r2)):
  Calls Tryz.prog 49 #[.string a0] w fun e w'=>e= .returned (.tuple #[.int .i64 r1,.bool r2])∧Below w.heap.size w w':=by
 have HB:=Aside0.mk (Below.refl w.heap.size w);have H:(if(a0.size:Int)=0 then(spec_ReadDec.j0 k a0 true)else(spec_ReadDec.j0 k a0 (decide ((a0.size:Int)>15))))=some (r1,r2):=h;clear h;have HC2:=Aside0.mk H;clear H;go_enter Tryz.func49,Tryz.ntmps49
 go_upto_region 1 with(fail)
 go_cut [13] (fun v13 wc=> ∃(kq:Nat) (x13_1:Bool),v13= .bool x13_1∧Aside0 (spec_ReadDec.j0 kq a0 x13_1=some (r1,r2))∧Aside0 (kq≤k)∧Aside0 (Below w.heap.size w wc))
 case first=>
  have H:=HC2.out;clear HC2
  by_cases c3:(a0.size:Int)=0
  ·rw[if_pos c3]at H;have c3b0:((a0.size:Int)==0)=true:=beq_iff_eq.mpr c3;have c3b1:((a0.size:Int)!=0)=false:=bne_eq_false_iff_eq.mpr c3;clear c3;(first|rw[c3b0]|(simp only[i64_w,i32_w];rw[c3b0])|rw[c3b1]|(rw[c3b2];simp only[Bool.not_true,Bool.not_false])|skip);have H':=Aside0.mk H;clear H;go_wp2
   go_meet
   case rel=>exact⟨_,(true),zz1,H',⟨zz19⟩,⟨zz0⟩⟩
  ·rw[if_neg c3]at H;have c3b0:((a0.size:Int)==0)=false:=beq_eq_false_iff_ne.mpr c3;have c3b1:((a0.size:Int)!=0)=true:=bne_iff_ne.mpr c3;(first|rw[c3b0]|(simp only[i64_w,i32_w];rw[c3b0])|rw[c3b1]|(rw[c3b2];simp only[Bool.not_true,Bool.not_false])|skip);have H':=Aside0.mk H;clear H;go_wp2
   go_meet
   case rel=>exact⟨_,(decide ((a0.size:Int)>15)),zz1,H',⟨zz19⟩,⟨zz0⟩⟩
 case rest=>
  clear HC2;(try clear p2);(try clear c3);(try clear c3b0);(try clear c3b1);obtain⟨kq,x13_1,rfl,HA,HJ1,HB⟩:=hcut
  cases kq with
  |zero=>exact absurd HA.out (by simp[spec_ReadDec.j0])
  |succ kj1=>
   have H:=HA.out;clear HA;simp only[spec_ReadDec.j0]at H
   by_cases c4:x13_1=true
   ·subst c4;rw[if_pos rfl]at H;simp only[Option.some.injEq,Prod.mk.injEq]at H;obtain⟨rfl,rfl⟩:=H;go_wp2
    go_ret2
    exact⟨zz2,zz0⟩
   ·replace c4:=Bool.eq_false_iff.mpr c4;subst c4;rw[if_neg Bool.false_ne_true]at H;have H':=Aside0.mk H;clear H;go_wp2
    go_loopg [4,5] kj1 (fun kq v4 v5 w'=> ∃(x4_2 x5_2:Int),v4= .int .i64 x4_2∧v5= .int .i64 x5_2∧Aside0 (spec_ReadDec.l0 kq a0 x4_2 x5_2=some (r1,r2))∧Aside0 (kq≤kj1)∧Aside0 (Below w.heap.size w w'))
    case atStart=>exact⟨(0),(0),zz1,zz1,H',⟨Nat.le_refl _⟩,⟨zz0⟩⟩
    case round=>
     clear H';(try clear p2);(try clear c3);(try clear c3b0);(try clear c3b1);(try clear c4);(try clear p2);obtain⟨x4_2,x5_2,rfl,rfl,HA,HK2,HB⟩:=hrel
     cases gk with
     |zero=>exact absurd HA.out (by simp[spec_ReadDec.l0])
     |succ k2=>
      have H:=HA.out;clear HA;simp only[spec_ReadDec.l0]at H
      by_cases c5:x5_2<(a0.size:Int)
      ·rw[if_pos c5]at H;have c5b0:decide (x5_2<(a0.size:Int))=true:=decide_eq_true c5;clear c5
       by_cases c6:0≤x5_2
       ·rw[if_pos c6]at H;have c6b0:decide (0≤x5_2)=true:=decide_eq_true c6;clear c6;replace H:=Option.bind_eq_some_iff.mp H;obtain⟨t112,A80,H⟩:=H;(try dsimp only at H);have A8:=Aside0.mk A80;clear A80;have HC9:=Aside0.mk H;clear H;have p7:0≤(x5_2:Int):=of_decide_eq_true zz5;have q7:x5_2<(a0.size:Int):=of_decide_eq_true zz5;have hx7:=bt_at a0 x5_2;replace p7:=eq_true p7;replace q7:=eq_true q7;go_upto_if 24 with(first|((with_reducible refine gate_callee (f:=79) rfl ?_);refine goesR_ 23 Tryz.func79 #[.int .u8 (bt a0 x5_2)] (spec_l1digit.calls (bt a0 x5_2) t112 _ A8.out) ?_;rintro w' ⟨nd,rfl⟩))
        (try simp only[Act.put,List.setIfInBounds_toArray,List.set_cons_zero,List.set_cons_succ]);(try(rw[drewN_self wr];generalize hq_:World.drewN wr _=wr;have n0_:Aside0 (Below w.heap.size w wr):=⟨zz105⟩;clear HB hq_;have HB:=n0_;clear n0_));have H:=HC9.out;clear HC9
        by_cases c10:t112=true
        ·subst c10;rw[if_pos rfl]at H;have H':=Aside0.mk H;clear H;have p11:0≤(x5_2:Int):=of_decide_eq_true zz5;have q11:x5_2<(a0.size:Int):=of_decide_eq_true zz5;have hx11:=bt_at a0 x5_2;replace p11:=eq_true p11;replace q11:=eq_true q11;go_wp2
         go_roundg k2
         (case measure=>have:=HJ1.out;have:=HK2.out;omega);case rel=>exact⟨(wrap64 ((wrap64 (x4_2*10))+(((bt a0 x5_2)-48)%256))),(wrap64 (x5_2+1)),zz1,zz1,H',⟨zz79⟩,⟨zz0⟩⟩
        ·replace c10:=Bool.eq_false_iff.mpr c10;subst c10;rw[if_neg Bool.false_ne_true]at H;simp only[Option.some.injEq,Prod.mk.injEq]at H;obtain⟨rfl,rfl⟩:=H;go_wp2
         go_ret2
         exact⟨zz2,zz0⟩
       ·rw[if_neg c6]at H;exact absurd H (by simp)
      ·rw[if_neg c5]at H;have c5b0:decide (x5_2<(a0.size:Int))=false:=decide_eq_false c5;clear c5;replace H:=Option.bind_eq_some_iff.mp H;obtain⟨t113,A120,H⟩:=H;(try dsimp only at H);have A12:=Aside0.mk A120;clear A120;have HC13:=Aside0.mk H;clear H;go_upto_if 36 with(first|((with_reducible refine gate_callee (f:=70) rfl ?_);refine goesR_ 34 Tryz.func70 #[.int .i64 x4_2] (spec_DecText.calls k2 x4_2 t113 _ A12.out) ?_;rintro w14 hb;replace HB:=Aside0.mk (below_step zz0 hb);(try clear hb)))
       (try simp only[Act.put,List.setIfInBounds_toArray,List.set_cons_zero,List.set_cons_succ]);have H:=HC13.out;clear HC13
       by_cases c15:t113.toList=a0.toList
       ·rw[if_pos c15]at H;have c15b0:(t113.toList==a0.toList)=true:=beq_iff_eq.mpr c15;have c15b1:(t113.toList !=a0.toList)=false:=bne_eq_false_iff_eq.mpr c15;clear c15;(first|rw[c15b0]|(simp only[i64_w,i32_w];rw[c15b0])|rw[c15b1]|(rw[c15b2];simp only[Bool.not_true,Bool.not_false])|skip);simp only[Option.some.injEq,Prod.mk.injEq]at H;obtain⟨rfl,rfl⟩:=H;go_wp2
        go_ret2
        exact⟨zz2,zz0⟩
       ·rw[if_neg c15]at H;have c15b0:(t113.toList==a0.toList)=false:=beq_eq_false_iff_ne.mpr c15;have c15b1:(t113.toList !=a0.toList)=true:=bne_iff_ne.mpr c15;(first|rw[c15b0]|(simp only[i64_w,i32_w];rw[c15b0])|rw[c15b1]|(rw[c15b2];simp only[Bool.not_true,Bool.not_false])|skip);simp only[Option.some.injEq,Prod.mk.injEq]at H;obtain⟨rfl,rfl⟩:=H;go_wp2
        go_ret2
        exact⟨zz2,zz0⟩
end Go.Proofs.YteojcbbifacpnaaGreatDoor.GFnExactLineText
