-- Printed by gen.py and its programs for this claim.
import Derived.Test.YthmehmehoehlpaaGreatDoorGFnExactRecTextx0
import Derived.Test.YthmehmehoehlpaaGreatDoorZFnExactRecText
namespace Go.Proofs.YthmehmehoehlpaaGreatDoor.GFnExactRecText
open Go.RowKit Go.Proofs.YthmehmehoehlpaaGreatDoorW.PrintWords Go.Proofs.YthmehmehoehlpaaGreatDoorW.PrintLast Go.Proofs.YthmehmehoehlpaaGreatDoorW.PrintMore Go.Proofs.YthmehmehoehlpaaGreatDoorW.Zs
set_option maxHeartbeats 40000000
set_option maxRecDepth 100000
attribute [local go_sem] max2_int min2_int max_two min_two max_three min_three max_four min_four
set_option linter.unusedVariables false
set_option linter.unusedSimpArgs false
def laws_szRec.f (a0 a1 a2:Int) (a3:ByteArray) (a4:Int) (a5 a6:ByteArray) (a7:Int):Option (Int):=if(wrap64 (a7-(a3.size:Int)))<0 then(some (-1))else(if(wrap64 ((wrap64 (a7-(a3.size:Int)))-(a5.size:Int)))<0 then(some (-1))else(if(wrap64 ((wrap64 ((wrap64 (a7-(a3.size:Int)))-(a5.size:Int)))-(a6.size:Int)))<0 then(some (-1))else(some (wrap64 ((wrap64 ((wrap64 (a7-(a3.size:Int)))-(a5.size:Int)))-(a6.size:Int))))))
theorem laws_szRec.calls (a0 a1 a2:Int) (a3:ByteArray) (a4:Int) (a5 a6:ByteArray) (a7 r:Int) (w:World) (H:laws_szRec.f a0 a1 a2 a3 a4 a5 a6 a7=some r):
  Calls Tryz.prog 4 #[.agg #[.int .i64 a0,.int .i64 a1,.int .i64 a2,.string a3,.int .i64 a4,.string a5,.string a6],.int .i64 a7] w fun e w'=>e= .returned (.int .i64 r)∧Below w.heap.size w w':=by
 have hu23:=Tryz.underlying23;have HB:=Aside0.mk (Below.refl w.heap.size w);unfold laws_szRec.f at H;have C0:=Aside0.mk H;clear H;go_enter Tryz.func4,Tryz.ntmps4
 go_upto_if 11 with(first|((with_reducible refine gate_dst (N:=2) rfl ?_);refine boxP_ (N:=2) (cs:= #[.int .i64 a0,.int .i64 a1,.int .i64 a2,.string a3,.int .i64 a4,.string a5,.string a6]) (t:=23) ?_;intro g0 hg w0 hbox hb;have B0:=Aside0.mk (hbox);have G0:=geb_ (w:=w) hg zb_;replace HB:=Aside0.mk (below_step zb_ hb);clear hb hbox hg;obtain⟨_,_,_,_,_,_,_,_,_,_,_,_,_,_⟩:=cells7_ B0.out))
 (try simp only[Act.put,List.setIfInBounds_toArray,List.set_cons_zero,List.set_cons_succ]);have H:=C0.out;clear C0
 by_cases c0:(wrap64 (a7-(a3.size:Int)))<0
 ·rw[if_pos c0]at H;have f0:=decide_eq_true c0;clear c0;(first|rw[f0]|(simp only[i64_w,i32_w];rw[f0])|skip);obtain rfl:=Option.some.inj H;go_wp2
  go_ret;exact⟨ze_,zb_⟩
 ·rw[if_neg c0]at H;have f0:=decide_eq_false c0;clear c0;(first|rw[f0]|(simp only[i64_w,i32_w];rw[f0])|skip)
  by_cases c1:(wrap64 ((wrap64 (a7-(a3.size:Int)))-(a5.size:Int)))<0
  ·rw[if_pos c1]at H;have f1:=decide_eq_true c1;clear c1;obtain rfl:=Option.some.inj H;obtain⟨_,_,_,_,_,_,_,_,_,_,_,_,_,_⟩:=cells7_ B0.out;go_wp2
   go_ret;exact⟨ze_,zb_⟩
  ·rw[if_neg c1]at H;have f1:=decide_eq_false c1;clear c1
   by_cases c2:(wrap64 ((wrap64 ((wrap64 (a7-(a3.size:Int)))-(a5.size:Int)))-(a6.size:Int)))<0
   ·rw[if_pos c2]at H;have f2:=decide_eq_true c2;clear c2;obtain rfl:=Option.some.inj H;obtain⟨_,_,_,_,_,_,_,_,_,_,_,_,_,_⟩:=cells7_ B0.out;go_wp2
    go_ret;exact⟨ze_,zb_⟩
   ·rw[if_neg c2]at H;have f2:=decide_eq_false c2;clear c2;obtain rfl:=Option.some.inj H;obtain⟨_,_,_,_,_,_,_,_,_,_,_,_,_,_⟩:=cells7_ B0.out;go_wp2
    go_ret;exact⟨ze_,zb_⟩
def spec_l2time.f (a0:Int):Option (Bool):=if a0≥0 then(some (decide (a0≤253402300799)))else(some false)
theorem spec_l2time.calls (a0:Int) (r:Bool) (w:World) (H:spec_l2time.f a0=some r):
  Calls Tryz.prog 12 #[.int .i64 a0] w fun e w'=>e= .returned (.bool r)∧Drawn0 w w':=by
 unfold spec_l2time.f at H
 by_cases c0:a0≥0
 ·rw[if_pos c0]at H;have f0:=decide_eq_true c0;clear c0;obtain rfl:=Option.some.inj H;go_enter Tryz.func12,Tryz.ntmps12
  go_wp2
  go_ret;exact⟨zr_,zd_⟩
 ·rw[if_neg c0]at H;have f0:=decide_eq_false c0;clear c0;obtain rfl:=Option.some.inj H;go_enter Tryz.func12,Tryz.ntmps12
  go_wp2
  go_ret;exact⟨zr_,zd_⟩
def spec_l6visible.l0:Nat→ByteArray→Int→Option (Bool)
 |0,_,_=>none
 |k+1,x0,x1=>if x1<(x0.size:Int)then(if 0≤x1 then(if(bt x0 x1)<33 then(some false)else(if(bt x0 x1)>126 then(some false)else(spec_l6visible.l0 k x0 (wrap64 (x1+1)))))else(none))else(some (decide ((x0.size:Int)>0)))
def spec_l6visible.f (k:Nat) (a0:ByteArray):Option (Bool):=spec_l6visible.l0 k a0 0
theorem spec_l6visible.calls (k:Nat) (a0:ByteArray) (r:Bool) (w:World) (H:spec_l6visible.f k a0=some r):
  Calls Tryz.prog 73 #[.string a0] w fun e w'=>e= .returned (.bool r)∧Drawn0 w w':=by
 unfold spec_l6visible.f at H;have H':=Aside0.mk H;clear H;go_enter Tryz.func73,Tryz.ntmps73
 go_wp2
 go_loopg [3] k (fun kq v0 w'=> ∃(x0:Int),v0= .int .i64 x0∧Aside0 (spec_l6visible.l0 kq a0 x0=some r)∧Aside0 (kq≤k)∧Drawn0 w w')
 case atStart=>exact⟨(0),zr_,H',⟨Nat.le_refl _⟩,zd_⟩
 case round=>
  clear H';obtain⟨x0,rfl,HA,K0,⟨m1,rfl⟩⟩:=hrel
  cases gk with
  |zero=>exact absurd HA.out (by simp[spec_l6visible.l0])
  |succ k0=>
   have H:=HA.out;clear HA;simp only[spec_l6visible.l0]at H
   by_cases c0:x0<(a0.size:Int)
   ·rw[if_pos c0]at H;have f0:=decide_eq_true c0;clear c0
    replace H:=ifS_ H;obtain⟨c1,H⟩:=H;have f1:=decide_eq_true c1;clear c1;have C0:=Aside0.mk H;clear H;have p0:0≤(x0:Int):=of_decide_eq_true za_;have q0:x0<(a0.size:Int):=of_decide_eq_true za_;have h0:=bt_at a0 x0;replace p0:=eq_true p0;replace q0:=eq_true q0
    repeat' (first|(go_big_may;(fail))|go_values|go_skip|go_big_skip|go_big_want|((first|(with_reducible refine gate_nog rfl ?_)|(fail_if_success with_reducible refine gate_any ?_));go_step)|go_upon|simp only[Bool.not_true,Bool.not_false,Bool.true_and,Bool.false_and,Bool.true_or,Bool.false_or]|dsimp only)
    have H:=C0.out;clear C0
    by_cases c2:(bt a0 x0)<33
    ·rw[if_pos c2]at H;have f2:=decide_eq_true c2;clear c2;(first|rw[f2]|(simp only[i64_w,i32_w];rw[f2])|skip);obtain rfl:=Option.some.inj H;go_wp2
     go_ret;exact⟨zr_,zd_⟩
    ·rw[if_neg c2]at H;have f2:=decide_eq_false c2;clear c2;(first|rw[f2]|(simp only[i64_w,i32_w];rw[f2])|skip)
     by_cases c3:(bt a0 x0)>126
     ·rw[if_pos c3]at H;have f3:=decide_eq_true c3;clear c3;obtain rfl:=Option.some.inj H;have p1:0≤(x0:Int):=of_decide_eq_true za_;have q1:x0<(a0.size:Int):=of_decide_eq_true za_;have h1:=bt_at a0 x0;replace p1:=eq_true p1;replace q1:=eq_true q1;go_wp2
      go_ret;exact⟨zr_,zd_⟩
     ·rw[if_neg c3]at H;have f3:=decide_eq_false c3;clear c3;have H':=Aside0.mk H;clear H;have p1:0≤(x0:Int):=of_decide_eq_true za_;have q1:x0<(a0.size:Int):=of_decide_eq_true za_;have h1:=bt_at a0 x0;replace p1:=eq_true p1;replace q1:=eq_true q1;go_wp2
      go_roundg k0
      (case measure=>have:=K0.out;omega);case rel=>exact⟨(wrap64 (x0+1)),zr_,H',⟨zz4⟩,zd_⟩
   ·rw[if_neg c0]at H;have f0:=decide_eq_false c0;clear c0;obtain rfl:=Option.some.inj H;go_wp2
    go_ret;exact⟨zr_,zd_⟩
def spec_l6upto.l0:Nat→ByteArray→Int→Int→Option (ByteArray)
 |0,_,_,_=>none
 |k+1,x0,x1,x2=>if x2<(x0.size:Int)then(if 0≤x2 then(if(bt x0 x2)=x1 then(if x2≤(x0.size:Int)then(some (x0.extract 0 (x2:Int).toNat))else(none))else(spec_l6upto.l0 k x0 x1 (wrap64 (x2+1))))else(none))else(some x0)
def spec_l6upto.f (k:Nat) (a0:ByteArray) (a1:Int):Option (ByteArray):=spec_l6upto.l0 k a0 a1 0
theorem spec_l6upto.calls (k:Nat) (a0:ByteArray) (a1:Int) (r:ByteArray) (w:World) (H:spec_l6upto.f k a0 a1=some r):
  Calls Tryz.prog 74 #[.string a0,.int .u8 a1] w fun e w'=>e= .returned (.string r)∧Drawn0 w w':=by
 unfold spec_l6upto.f at H;have H':=Aside0.mk H;clear H;go_enter Tryz.func74,Tryz.ntmps74
 go_wp2
 go_loopg [5] k (fun kq v0 w'=> ∃(x0:Int),v0= .int .i64 x0∧Aside0 (spec_l6upto.l0 kq a0 a1 x0=some r)∧Aside0 (kq≤k)∧Drawn0 w w')
 case atStart=>exact⟨(0),zr_,H',⟨Nat.le_refl _⟩,zd_⟩
 case round=>
  clear H';(try clear p0);obtain⟨x0,rfl,HA,K0,⟨m1,rfl⟩⟩:=hrel
  cases gk with
  |zero=>exact absurd HA.out (by simp[spec_l6upto.l0])
  |succ k0=>
   have H:=HA.out;clear HA;simp only[spec_l6upto.l0]at H
   by_cases c0:x0<(a0.size:Int)
   ·rw[if_pos c0]at H;have f0:=decide_eq_true c0;clear c0
    replace H:=ifS_ H;obtain⟨c1,H⟩:=H;have f1:=decide_eq_true c1;clear c1
    by_cases c2:(bt a0 x0)=a1
    ·rw[if_pos c2]at H;obtain⟨f2,f3⟩:=bqT_ c2;clear c2;have f4:=eq_true (of_decide_eq_true za_:0≤x0)
     replace H:=ifS_ H;obtain⟨c3,H⟩:=H;obtain⟨f5,f6⟩:=dT_ c3;clear c3;obtain rfl:=Option.some.inj H;have p1:0≤(x0:Int):=of_decide_eq_true za_;have q0:x0<(a0.size:Int):=of_decide_eq_true za_;have h0:=bt_at a0 x0;replace p1:=eq_true p1;replace q0:=eq_true q0;go_wp2
     go_ret;exact⟨zr_,zd_⟩
    ·rw[if_neg c2]at H;obtain⟨f2,f3⟩:=bqF_ c2;have H':=Aside0.mk H;clear H;have p1:0≤(x0:Int):=of_decide_eq_true za_;have q0:x0<(a0.size:Int):=of_decide_eq_true za_;have h0:=bt_at a0 x0;replace p1:=eq_true p1;replace q0:=eq_true q0;go_wp2
     go_roundg k0
     (case measure=>have:=K0.out;omega);case rel=>exact⟨(wrap64 (x0+1)),zr_,H',⟨zz4⟩,zd_⟩
   ·rw[if_neg c0]at H;have f0:=decide_eq_false c0;clear c0;obtain rfl:=Option.some.inj H;go_wp2
    go_ret;exact⟨zr_,zd_⟩
def spec_l1lower.f (a0:Int):Option (Int):=if a0≥65 then(if a0≤90 then(some ((a0+32)%256))else(some a0))else(some a0)
theorem spec_l1lower.calls (a0 r:Int) (w:World) (H:spec_l1lower.f a0=some r):
  Calls Tryz.prog 109 #[.int .u8 a0] w fun e w'=>e= .returned (.int .u8 r)∧Drawn0 w w':=by
 unfold spec_l1lower.f at H
 by_cases c0:a0≥65
 ·rw[if_pos c0]at H;have f0:=decide_eq_true c0;clear c0
  by_cases c1:a0≤90
  ·rw[if_pos c1]at H;have f1:=decide_eq_true c1;clear c1;obtain rfl:=Option.some.inj H;go_enter Tryz.func109,Tryz.ntmps109
   go_wp2
   go_ret;exact⟨zr_,zd_⟩
  ·rw[if_neg c1]at H;have f1:=decide_eq_false c1;clear c1;obtain rfl:=Option.some.inj H;go_enter Tryz.func109,Tryz.ntmps109
   go_wp2
   go_ret;exact⟨zr_,zd_⟩
 ·rw[if_neg c0]at H;have f0:=decide_eq_false c0;clear c0;obtain rfl:=Option.some.inj H;go_enter Tryz.func109,Tryz.ntmps109
  go_wp2
  go_ret;exact⟨zr_,zd_⟩
theorem spec_Fold_low (x:Int):spec_l1lower.f x=some (lowI x):=by unfold spec_l1lower.f lowI;split<;>(try split)<;>rfl
def spec_Fold.f (a0:ByteArray):Option (ByteArray):=if a0.size≤1099511627776 then some (strOfNums ((bytesOf a0).map lowI))else none
theorem spec_Fold.calls (a0 r:ByteArray) (w:World) (h:spec_Fold.f a0=some r):
  Calls Tryz.prog 75 #[.string a0] w fun e w'=>e= .returned (.string r)∧Below w.heap.size w w':=by
 have hu40:=Tryz.underlying40;unfold spec_Fold.f at h
 by_cases hlim:a0.size≤1099511627776
 ·rw[if_pos hlim]at h;obtain rfl:=Option.some.inj h;clear h;have HL:=Aside0.mk hlim;clear hlim;have kb:=fun W=>print_bytes (P:=Tryz.prog) 9 40 5 Tryz.underlying9 Tryz.underlying40 Tryz.underlying5 a0 W;go_enter Tryz.func75,Tryz.ntmps75
  go_wp2
  go_loopg [4] (a0.size+1) (fun kq v0 w'=> ∃(x0:Int),v0= .int .i64 x0∧Aside0 (∃j:Nat,x0=(j:Int)∧j≤a0.size∧kq+j=a0.size+1∧BRow w' w.heap.size (lowTo a0 j))∧Aside0 (w.heap.size<w'.heap.size∧Below w.heap.size w w'))
  case atStart=>
   exact⟨0,rfl,⟨0,rfl,by omega,by omega,by rw[lowTo_zero];exact BRow.new _ _ _⟩,⟨by rw[Lib.bytesWorld_size];omega,bytes_below (Below.refl _ _) (Nat.le_refl _) _ _⟩⟩
  case round=>
   obtain⟨x0,rfl,HJ,HB⟩:=hrel;obtain⟨j,hxj,hjl,hkj,hbr⟩:=HJ.out;clear HJ;have HX:=Aside0.mk hxj;have HJL:=Aside0.mk hjl;have HK:=Aside0.mk hkj;have HR:=Aside0.mk hbr;clear hxj hjl hkj hbr
   cases gk with
   |zero=>have:=HK.out;have:=HJL.out;omega
   |succ k0=>
   by_cases hlt:j<a0.size
   ·have c0:decide (x0<(a0.size:Int))=true:=decide_eq_true (by have:=HX.out;omega);have p0:0≤(x0:Int):=by have:=HX.out;omega
    have q0:x0<(a0.size:Int):=of_decide_eq_true c0;have HLT:=Aside0.mk hlt;have h0:=HR.out.cell x0.toNat zz3;have hfz:=HR.out.frozen x0.toNat zz3;have hbj:(lowTo a0 j).getD x0.toNat 0=(bytesOf a0).getD j 0:=by rw[HX.out,Int.toNat_natCast];exact lowTo_get _ _ hlt
    have hset:=lowTo_set a0 j hlt;rw[hbj]at h0;generalize (bytesOf a0).getD j 0=b at h0 hset;have HS:=Aside0.mk hset;clear hlt hset hbj;replace p0:=eq_true p0;replace q0:=eq_true q0;go_wp2_with fail
    refine(spec_l1lower.calls b (lowI b) _ (spec_Fold_low b)).mono ?_;rintro e w0 ⟨rfl,⟨nd,rfl⟩⟩;go_wp2
    go_roundg k0
    case measure=>omega
    case rel=>
     have hx:=HX.out;have hk:=HK.out;have hlt:=HLT.out;have hl:=HL.out;have hxn:x0.toNat=j:=by omega
     refine⟨_,rfl,⟨j+1,by rw[hx];unfold wrap64;omega,by omega,by omega,?_⟩,⟨?_,?_⟩⟩
     ·rw[←HS.out,hxn];exact HR.out.set j _
     ·have:=HB.out.1;simpa using this
     ·exact(HB.out.2.trans (pw_below_drewN (Below.refl _ _) nd)).setCell (Nat.le_refl _) _
   ·have c0:decide (x0<(a0.size:Int))=false:=decide_eq_false (by have:=HX.out;omega);have hj2:j=a0.size:=by have:=HJL.out;omega
    have hst:=HR.out.string (P:=Tryz.prog) (c:=grownCap w a0.size 0 5) (src:=40) (dst:=9) Tryz.underlying40 Tryz.underlying5 Tryz.underlying9 (lowTo_length a0 j HJL.out);rw[hj2,lowTo_all]at hst;go_wp2_with fail
    go_ret;exact⟨rfl,HB.out.2⟩
 ·rw[if_neg hlim]at h;cases h
mutual
def spec_DecText.j0:Nat→Int→Bool→Option (ByteArray)
 |0,_,_=>none
 |k+1,x0,x1=>if x1=true then(some (⟨#[]⟩:ByteArray))else(if x0<10 then(some (strOfNums (([(wrap64 (48+x0))%256]:List Int))))else((spec_DecText.f k (wrap64 (Int.tdiv x0 10))).bind fun t0=>((some (([(wrap64 (48+(Int.tmod x0 10)))%256]:List Int):List Int)).bind fun y0=>(if t0.size+(strOfNums y0).size≤9223372036854775807 then(some (t0++(strOfNums y0)))else(none)))))
def spec_DecText.f:Nat→Int→Option (ByteArray)
 |0,_=>none
 |k+1,a0=>if a0<0 then(spec_DecText.j0 k a0 true)else(spec_DecText.j0 k a0 (decide (a0>999999999999999)))
end
def spec_DecText.T5:Bool×List (List Nat×List Nat):=(true,[([],[]),([0],[0]),([1],[1]),([],[]),([3],[3]),([4],[4]),([5],[5]),([6],[6]),([7],[7]),([2,8],[2,8]),([9,2,0,1,2,3,4,5,6,7,8,9],[9])])
def spec_DecText.B5:List Nat:= [0,1,3,0,8,24,56,120,248,511,1023]
theorem spec_DecText.tab5:rtab .any (opsOf Tryz.f20 5)=spec_DecText.T5:=by kernel_rfl
theorem spec_DecText.bits5:waitsOk spec_DecText.T5.2 spec_DecText.B5=true:=by kernel_rfl
theorem spec_DecText.calls (k:Nat): ∀(a0:Int) (r:ByteArray) (w:World) (h:spec_DecText.f k a0=some r),
  Calls Tryz.prog 20 #[.int .i64 a0] w fun e w'=>e= .returned (.string r)∧Below w.heap.size w w':=by
 induction k using Nat.strongRecOn with
 |_ k ih=>
 intro a0 r w h
 cases k with
 |zero=>exact absurd h (by simp[spec_DecText.f])
 |succ k=>
 simp only[spec_DecText.f]at h;have HB:=Aside0.mk (Below.refl w.heap.size w);have H:(if a0<0 then(spec_DecText.j0 k a0 true)else(spec_DecText.j0 k a0 (decide (a0>999999999999999))))=some r:=h;clear h;have C0:=Aside0.mk H;clear H;go_enter Tryz.func20,Tryz.ntmps20
 go_upto_region 1 with(fail)
 go_cut [8] (fun v0 wc=> ∃(kq:Nat) (x0:Bool),v0= .bool x0∧Aside0 (spec_DecText.j0 kq a0 x0=some r)∧Aside0 (kq≤k)∧Aside0 (Below w.heap.size w wc))
 case first=>
  have H:=C0.out;clear C0
  by_cases c0:a0<0
  ·rw[if_pos c0]at H;have f0:=decide_eq_true c0;clear c0;(first|rw[f0]|(simp only[i64_w,i32_w];rw[f0])|skip);have H':=Aside0.mk H;clear H;go_wp2
   go_meet
   case rel=>exact⟨_,(true),zr_,H',⟨zo_⟩,⟨zb_⟩⟩
  ·rw[if_neg c0]at H;have f0:=decide_eq_false c0;clear c0;(first|rw[f0]|(simp only[i64_w,i32_w];rw[f0])|skip);have H':=Aside0.mk H;clear H;go_wp2
   go_meet
   case rel=>exact⟨_,(decide (a0>999999999999999)),zr_,H',⟨zo_⟩,⟨zb_⟩⟩
 case rest=>
  clear C0;(try clear c1);(try clear p0);(try clear c0);(try clear f0);obtain⟨kq,x0,rfl,HA,J0,HB⟩:=hcut
  cases kq with
  |zero=>exact absurd HA.out (by simp[spec_DecText.j0])
  |succ k0=>
   have H:=HA.out;clear HA;simp only[spec_DecText.j0]at H
   by_cases c2:x0=true
   ·subst c2;rw[if_pos rfl]at H;obtain rfl:=Option.some.inj H;go_wp2
    go_ret;exact⟨ze_,zb_⟩
   ·replace c2:=Bool.eq_false_iff.mpr c2;subst c2;rw[if_neg Bool.false_ne_true]at H
    by_cases c3:a0<10
    ·rw[if_pos c3]at H;have f1:=decide_eq_true c3;clear c3;generalize h0:(([(wrap64 (48+a0))%256]:List Int):List Int)=y0 at H;have Y0:=Aside0.mk h0.symm;clear h0;obtain rfl:=Option.some.inj H;go_wp2_with (first|((with_reducible refine gate_dst (N:=14) rfl ?_);refine Kd.R_lit (Kd.int .u8) _ 5 ?hg (N:=14) ?hd (xs:=([(wrap64 (48+a0))%256]:List Int)) (inner:= [.int .u8 ((wrap64 (48+a0))%256)]) (ok:=fun _=>True) (okp:=fun _=>True) ?hr ?hp (fun _ hk=>hk) trivial (Below.refl _ _) (Nat.le_refl _) (by simp) ?_;(case hd=>rfl);(case hg=>rfl);(case hr=>first|(go_simp;done)|(go_simp;rfl));(case hp=>exact(Reps.one (show Kd.M (Kd.int .u8) _ _ _ ((wrap64 (48+a0))%256) [.int .u8 ((wrap64 (48+a0))%256)]from rfl) (Reps.none _ _)));intro v1 w0 h1 hb hg_ hnew_;clear hg_ hnew_;(first|rw[←Y0.out]at h1|(simp only[Int.reduceToNat]at h1;rw[←Y0.out]at h1));have O0:=Aside0.mk (Kd.R_lower h1 (below_size zb_));replace HB:=Aside0.mk (below_step zb_ hb);clear hb h1;have hcv8:=own_string (P:=Tryz.prog) Tryz.underlying40 Tryz.underlying5 Tryz.underlying9 (Kd.own_of_R O0.out)))
     go_ret;exact⟨ze_,zb_⟩
    ·rw[if_neg c3]at H;have f1:=decide_eq_false c3;clear c3;replace H:=bS_ H;obtain⟨t0,A0,H⟩:=H;(try dsimp only at H);generalize h2:(([(wrap64 (48+(Int.tmod a0 10)))%256]:List Int):List Int)=y1 at H;have Y1:=Aside0.mk h2.symm;clear h2
     replace H:=ifS_ H;obtain⟨c4,H⟩:=H;obtain⟨f2,f3⟩:=dT_ c4;(try have f4:=eq_false (Nat.not_lt.2 c4));obtain rfl:=Option.some.inj H;(try go_wp2);replace HB:=Aside0.mk (below_drew1 HB.out);refine st_ (n:=11) (S:=fun w'=>True) (ds:= []) trivial (fun hHeld=>?_);refine with_tabW spec_DecText.tab5 spec_DecText.bits5 (fun HT_ HW_=>?_);generalize wc.drew=w2 at HB hHeld ⊢;refine pz 0 16 ?_;refine pz 1 17 ?_;refine pz 3 19 ?_;refine pz 4 20 ?_;refine pz 5 21 ?_;refine pz 6 22 ?_;refine join_ (σ:=Value) 2 #[true,true,true,true,true,true,true,true,true,false,false] (fun s_=> [(18,.string t0),(23,s_),(24,.string (strOfNums y1))]) (fun s_ w'=>(Kd.R (Kd.int .u8) 5 w' w.heap.size (fun _=>True) s_ y1)∧(Below w.heap.size w w')) ?_ ?_;rotate_left
     ·intro hCont;refine two_ (i:=2) (j:=7) (Ni:=some 18) (Nj:=some 23) #[true,true,true,true,true,true,true,false,false,false,false] #[true,true,false,true,true,true,true,true,false,false,false] rfl rfl rfl rfl (two_of HT_.out zz0) zz2 zz2 (fun K hK=>?_) (fun K hK=>?_)
      ·skip
       refine goZ Tryz.func20 #[.int .i64 (wrap64 (Int.tdiv a0 10))] (ih k0 (by have:=J0.out;omega) (wrap64 (Int.tdiv a0 10)) t0 _ A0.out) ?_;rintro w3 hb;replace HB:=Aside0.mk (below_step zb_ hb);(try clear hb);refine hK.out _ _ trivial (fun hHeld=>?_);clear hK K;refine nz ?_;refine oz 7 23 (fun K hK=>?_);refine Kd.R_lit_step (Kd.int .u8) _ 5 ?hg (N:=23) ?hd (xs:=([(wrap64 (48+(Int.tmod a0 10)))%256]:List Int)) (inner:= [.int .u8 ((wrap64 (48+(Int.tmod a0 10)))%256)]) (ok:=fun _=>True) (okp:=fun _=>True) ?hr ?hp (fun _ hk=>hk) trivial (Below.refl _ _) (Nat.le_refl _) (by simp) ?_;(case hd=>rfl);(case hg=>rfl);(case hr=>first|(go_simp;done)|(go_simp;rfl));(case hp=>exact(Reps.one (show Kd.M (Kd.int .u8) _ _ _ ((wrap64 (48+(Int.tmod a0 10)))%256) [.int .u8 ((wrap64 (48+(Int.tmod a0 10)))%256)]from rfl) (Reps.none _ _)));intro v2 w4 h3 hb hg_ hnew_;clear hg_ hnew_;(first|rw[←Y1.out]at h3|(simp only[Int.reduceToNat]at h3;rw[←Y1.out]at h3));have O1:=Aside0.mk (Kd.R_lower h3 (below_size zb_));replace HB:=Aside0.mk (below_step zb_ hb);clear hb h3;refine hK.out _ _ trivial (fun hHeld=>?_);clear hK K;refine nz ?_;refine oz 8 24 (fun K hK=>?_);have hcv15:=own_string (P:=Tryz.prog) Tryz.underlying40 Tryz.underlying5 Tryz.underlying9 (Kd.own_of_R O1.out);refine value_ (w1:=?_) (v:=?_) (by rfl) rfl ?_ ?_;rotate_left 2
       ·go_simp;constructor
        ·rfl
        ·rfl
       clear hcv15;refine hK.out _ _ trivial (fun hHeld=>?_);clear hK K;refine nz ?_;exact norm_ zz1 (hCont (v2) _ ⟨(kr_ O1),zb_⟩)
      ·skip
       refine Kd.R_lit_step (Kd.int .u8) _ 5 ?hg (N:=23) ?hd (xs:=([(wrap64 (48+(Int.tmod a0 10)))%256]:List Int)) (inner:= [.int .u8 ((wrap64 (48+(Int.tmod a0 10)))%256)]) (ok:=fun _=>True) (okp:=fun _=>True) ?hr ?hp (fun _ hk=>hk) trivial (Below.refl _ _) (Nat.le_refl _) (by simp) ?_;(case hd=>rfl);(case hg=>rfl);(case hr=>first|(go_simp;done)|(go_simp;rfl));(case hp=>exact(Reps.one (show Kd.M (Kd.int .u8) _ _ _ ((wrap64 (48+(Int.tmod a0 10)))%256) [.int .u8 ((wrap64 (48+(Int.tmod a0 10)))%256)]from rfl) (Reps.none _ _)));intro v2 w3 h4 hb hg_ hnew_;clear hg_ hnew_;(first|rw[←Y1.out]at h4|(simp only[Int.reduceToNat]at h4;rw[←Y1.out]at h4));have O1:=Aside0.mk (Kd.R_lower h4 (below_size zb_));replace HB:=Aside0.mk (below_step zb_ hb);clear hb h4;refine hK.out _ _ trivial (fun hHeld=>?_);clear hK K;refine nz ?_;refine two_ (i:=2) (j:=8) (Ni:=some 18) (Nj:=some 24) #[true,true,true,true,true,true,true,true,false,false,false] #[true,true,false,true,true,true,true,true,true,false,false] rfl rfl rfl rfl (two_of HT_.out zz0) zz2 zz2 (fun K hK=>?_) (fun K hK=>?_)
       ·skip
        refine goZ Tryz.func20 #[.int .i64 (wrap64 (Int.tdiv a0 10))] (ih k0 (by have:=J0.out;omega) (wrap64 (Int.tdiv a0 10)) t0 _ A0.out) ?_;rintro w5 hb;replace O1:=Aside0.mk (Kd.R_below (kr_ O1) hb);replace HB:=Aside0.mk (below_step zb_ hb);(try clear hb);refine hK.out _ _ trivial (fun hHeld=>?_);clear hK K;refine nz ?_;refine oz 8 24 (fun K hK=>?_);have hcv15:=own_string (P:=Tryz.prog) Tryz.underlying40 Tryz.underlying5 Tryz.underlying9 (Kd.own_of_R O1.out);refine value_ (w1:=?_) (v:=?_) (by rfl) rfl ?_ ?_;rotate_left 2
        ·go_simp;constructor
         ·rfl
         ·rfl
        clear hcv15;refine hK.out _ _ trivial (fun hHeld=>?_);clear hK K;refine nz ?_;exact norm_ zz1 (hCont (v2) _ ⟨(kr_ O1),zb_⟩)
       ·skip
        have hcv14:=own_string (P:=Tryz.prog) Tryz.underlying40 Tryz.underlying5 Tryz.underlying9 (Kd.own_of_R O1.out);refine value_ (w1:=?_) (v:=?_) (by rfl) rfl ?_ ?_;rotate_left 2
        ·go_simp;constructor
         ·rfl
         ·rfl
        clear hcv14;refine hK.out _ _ trivial (fun hHeld=>?_);clear hK K;refine nz ?_;refine oZ 2 18 Tryz.func20 (ih k0 (by have:=J0.out;omega) (wrap64 (Int.tdiv a0 10)) t0 _ A0.out) (fun K hK=>?_);rintro w6 hb;replace O1:=Aside0.mk (Kd.R_below (kr_ O1) hb);replace HB:=Aside0.mk (below_step zb_ hb);(try clear hb);refine hK.out _ _ trivial (fun hHeld=>?_);clear hK K;refine nz ?_;exact norm_ zz1 (hCont (v2) _ ⟨(kr_ O1),zb_⟩)
     rintro v2 w7 ⟨h0_,h1_⟩;have n0_:Aside0 (Kd.R (Kd.int .u8) 5 w7 w.heap.size (fun _=>True) v2 y1):=⟨h0_⟩;have n1_:Aside0 (Below w.heap.size w w7):=⟨h1_⟩;clear HB;clear h0_ h1_;have O1:=n0_;have HB:=n1_;clear n0_ n1_;have hHeld:=trivial;refine norm_ (a':=?_) ?_ ?_;rotate_left
     ·simp only[putAll,Act.put,List.setIfInBounds_toArray,List.set_cons_zero,List.set_cons_succ];rfl
     refine pz 9 25 ?_;refine pz 10 2 ?_;refine done_ (done_of HT_.out zz0) ?_;(try go_wp2);go_ret;exact⟨ze_,zb_⟩
def spec_l1digit.f (a0:Int):Option (Bool):=if a0≥48 then(some (decide (a0≤57)))else(some false)
theorem spec_l1digit.calls (a0:Int) (r:Bool) (w:World) (H:spec_l1digit.f a0=some r):
  Calls Tryz.prog 110 #[.int .u8 a0] w fun e w'=>e= .returned (.bool r)∧Drawn0 w w':=by
 unfold spec_l1digit.f at H
 by_cases c0:a0≥48
 ·rw[if_pos c0]at H;have f0:=decide_eq_true c0;clear c0;obtain rfl:=Option.some.inj H;go_enter Tryz.func110,Tryz.ntmps110
  go_wp2
  go_ret;exact⟨zr_,zd_⟩
 ·rw[if_neg c0]at H;have f0:=decide_eq_false c0;clear c0;obtain rfl:=Option.some.inj H;go_enter Tryz.func110,Tryz.ntmps110
  go_wp2
  go_ret;exact⟨zr_,zd_⟩
end Go.Proofs.YthmehmehoehlpaaGreatDoor.GFnExactRecText
