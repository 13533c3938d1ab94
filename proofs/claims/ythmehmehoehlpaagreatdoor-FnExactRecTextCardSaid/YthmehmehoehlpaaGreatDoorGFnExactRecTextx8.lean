-- Printed by gen.py and its programs for this claim.
import Derived.Test.YthmehmehoehlpaaGreatDoorGFnExactRecTextx0
import Derived.Test.YthmehmehoehlpaaGreatDoorGFnExactRecTextx5
import Derived.Test.YthmehmehoehlpaaGreatDoorGFnExactRecTextx6
import Derived.Test.YthmehmehoehlpaaGreatDoorGFnExactRecTextx7
import Derived.Test.YthmehmehoehlpaaGreatDoorZFnExactRecText
namespace Go.Proofs.YthmehmehoehlpaaGreatDoor.GFnExactRecText
open Go.RowKit Go.Proofs.YthmehmehoehlpaaGreatDoorW.PrintWords Go.Proofs.YthmehmehoehlpaaGreatDoorW.PrintLast Go.Proofs.YthmehmehoehlpaaGreatDoorW.PrintMore Go.Proofs.YthmehmehoehlpaaGreatDoorW.Zs
set_option maxHeartbeats 40000000
set_option maxRecDepth 100000
attribute [local go_sem] max2_int min2_int max_two min_two max_three min_three max_four min_four
set_option linter.unusedVariables false
set_option linter.unusedSimpArgs false
def spec_UrlText.f (k:Nat) (a0:ByteArray) (a1:Int) (a2 a3:ByteArray) (a4:Bool):Option (ByteArray):=(spec_UrlOk.f k a0 a1 a2 a3 a4).bind fun t0=>(if t0=true then((spec_l7text.f k a0 a1 a2 a3 a4).bind fun t1=>(some t1))else(some (⟨#[]⟩:ByteArray)))
theorem spec_UrlText.calls (k:Nat) (a0:ByteArray) (a1:Int) (a2 a3:ByteArray) (a4:Bool) (r:ByteArray) (w:World) (H:spec_UrlText.f k a0 a1 a2 a3 a4=some r):
  Calls Tryz.prog 53 #[.agg #[.string a0,.int .i64 a1,.string a2,.string a3,.bool a4]] w fun e w'=>e= .returned (.string r)∧Below w.heap.size w w':=by
 have hu63:=Tryz.underlying63;have HB:=Aside0.mk (Below.refl w.heap.size w);unfold spec_UrlText.f at H;replace H:=bS_ H;obtain⟨t0,A0,H⟩:=H;(try dsimp only at H);have C0:=Aside0.mk H;clear H;go_enter Tryz.func53,Tryz.ntmps53
 go_upto_if 5 with(first|((with_reducible refine gate_dst (N:=1) rfl ?_);refine boxP_ (N:=1) (cs:= #[.string a0,.int .i64 a1,.string a2,.string a3,.bool a4]) (t:=63) ?_;intro g0 hg w0 hbox hb;have B0:=Aside0.mk (hbox);have G0:=geb_ (w:=w) hg zb_;replace HB:=Aside0.mk (below_step zb_ hb);clear hb hbox hg;obtain⟨_,_,_,_,_,_,_,_,_,_⟩:=cells5_ B0.out)|((with_reducible refine gc_ 78 rfl ?_);refine gR 4 Tryz.func78 (spec_UrlOk.calls k a0 a1 a2 a3 a4 t0 _ A0.out) ?_;rintro w1 hb;replace B0:=Aside0.mk (blk_below (bk_ B0) hb);replace HB:=Aside0.mk (below_step zb_ hb);(try clear hb)))
 (try simp only[Act.put,List.setIfInBounds_toArray,List.set_cons_zero,List.set_cons_succ]);have H:=C0.out;clear C0
 by_cases c0:t0=true
 ·subst c0;rw[if_pos rfl]at H;replace H:=bS_ H;obtain⟨t1,A1,H⟩:=H;(try dsimp only at H);obtain rfl:=Option.some.inj H;obtain⟨_,_,_,_,_,_,_,_,_,_⟩:=cells5_ B0.out;go_wp2_with (first|((with_reducible refine gc_ 79 rfl ?_);refine gR 7 Tryz.func79 (spec_l7text.calls k a0 a1 a2 a3 a4 t1 _ A1.out) ?_;rintro w2 hb;replace B0:=Aside0.mk (blk_below (bk_ B0) hb);replace HB:=Aside0.mk (below_step zb_ hb);(try clear hb)))
  go_ret;exact⟨ze_,zb_⟩
 ·replace c0:=Bool.eq_false_iff.mpr c0;subst c0;rw[if_neg Bool.false_ne_true]at H;obtain rfl:=Option.some.inj H;go_wp2
  go_ret;exact⟨ze_,zb_⟩
def spec_Canon.f (k:Nat) (a0:ByteArray):Option (ByteArray×Bool):=(spec_ReadUrl.f k a0).bind fun b0=>(if b0.2.2.2.2.2=true then((spec_UrlText.f k b0.1 b0.2.1 b0.2.2.1 b0.2.2.2.1 b0.2.2.2.2.1).bind fun t0=>(some (t0,true)))else(some ((⟨#[]⟩:ByteArray),false)))
theorem spec_Canon.calls (k:Nat) (a0 r1:ByteArray) (r2:Bool) (w:World) (H:spec_Canon.f k a0=some (r1,r2)):
  Calls Tryz.prog 35 #[.string a0] w fun e w'=>e= .returned (.tuple #[.string r1,.bool r2])∧Below w.heap.size w w':=by
 have hu63:=Tryz.underlying63;have HB:=Aside0.mk (Below.refl w.heap.size w);unfold spec_Canon.f at H;replace H:=bS_ H;obtain⟨⟨t0,t1,t2,t3,t4,t5⟩,A0,H⟩:=H;(try dsimp only at H);have C0:=Aside0.mk H;clear H;go_enter Tryz.func35,Tryz.ntmps35
 go_upto_if 12 with(first|((with_reducible refine gc_ 52 rfl ?_);refine gR 8 Tryz.func52 (spec_ReadUrl.calls k a0 t0 t1 t2 t3 t4 t5 _ A0.out) ?_;rintro w0 hb;replace HB:=Aside0.mk (below_step zb_ hb);(try clear hb))|((with_reducible refine gate_dst (N:=4) rfl ?_);refine boxP_ (N:=4) (cs:= #[.string (⟨#[]⟩:ByteArray),.int .i64 0,.string (⟨#[]⟩:ByteArray),.string (⟨#[]⟩:ByteArray),.bool false]) (t:=63) ?_;intro g0 hg w1 hbox hb;have B0:=Aside0.mk (hbox);have G0:=geb_ (w:=w) hg zb_;replace HB:=Aside0.mk (below_step zb_ hb);clear hb hbox hg;obtain⟨_,_,_,_,_,_,_,_,_,_⟩:=cells5_ B0.out))
 (try simp only[Act.put,List.setIfInBounds_toArray,List.set_cons_zero,List.set_cons_succ]);have H:=C0.out;clear C0
 by_cases c0:t5=true
 ·subst c0;rw[if_pos rfl]at H;replace H:=bS_ H;obtain⟨t6,A1,H⟩:=H;(try dsimp only at H);simp only[Option.some.injEq,Prod.mk.injEq]at H;obtain⟨rfl,rfl⟩:=H;obtain⟨_,_,_,_,_,_,_,_,_,_⟩:=cells5_ B0.out;go_wp2_with (first|((with_reducible refine gc_ 53 rfl ?_);refine gR 14 Tryz.func53 (spec_UrlText.calls k t0 t1 t2 t3 t4 t6 _ A1.out) ?_;rintro w2 hb;replace B0:=Aside0.mk (blk_below (g:=g0) (o:= .cells #[.string t0,.int .i64 t1,.string t2,.string t3,.bool t4] 63 (0,0)) (bk_ B0) hb);replace HB:=Aside0.mk (below_step zb_ hb);(try clear hb)))
  go_ret2
  exact⟨ze_,zb_⟩
 ·replace c0:=Bool.eq_false_iff.mpr c0;subst c0;rw[if_neg Bool.false_ne_true]at H;simp only[Option.some.injEq,Prod.mk.injEq]at H;obtain⟨rfl,rfl⟩:=H;go_wp2
  go_ret2
  exact⟨ze_,zb_⟩
def spec_l8canon.f (k:Nat) (a0:ByteArray):Option (Bool):=(spec_Canon.f k a0).bind fun b0=>(if b0.2=true then(some (b0.1.toList==a0.toList))else(some false))
theorem spec_l8canon.calls (k:Nat) (a0:ByteArray) (r:Bool) (w:World) (H:spec_l8canon.f k a0=some r):
  Calls Tryz.prog 13 #[.string a0] w fun e w'=>e= .returned (.bool r)∧Below w.heap.size w w':=by
 have HB:=Aside0.mk (Below.refl w.heap.size w);unfold spec_l8canon.f at H;replace H:=bS_ H;obtain⟨⟨t0,t1⟩,A0,H⟩:=H;(try dsimp only at H);have C0:=Aside0.mk H;clear H;go_enter Tryz.func13,Tryz.ntmps13
 repeat' (first|(go_big_may;(first|((with_reducible refine gc_ 35 rfl ?_);refine gR 7 Tryz.func35 (spec_Canon.calls k a0 t0 t1 _ A0.out) ?_;rintro w0 hb;replace HB:=Aside0.mk (below_step zb_ hb);(try clear hb))))|go_values|go_skip|go_big_skip|go_big_want|((first|(with_reducible refine gate_nog rfl ?_)|(fail_if_success with_reducible refine gate_any ?_));go_step)|go_upon|simp only[Bool.not_true,Bool.not_false,Bool.true_and,Bool.false_and,Bool.true_or,Bool.false_or]|dsimp only)
 (try simp only[Act.put,List.setIfInBounds_toArray,List.set_cons_zero,List.set_cons_succ]);have H:=C0.out;clear C0
 by_cases c0:t1=true
 ·subst c0;rw[if_pos rfl]at H;obtain rfl:=Option.some.inj H;go_wp2
  go_ret;exact⟨ze_,zb_⟩
 ·replace c0:=Bool.eq_false_iff.mpr c0;subst c0;rw[if_neg Bool.false_ne_true]at H;obtain rfl:=Option.some.inj H;go_wp2
  go_ret;exact⟨ze_,zb_⟩
def spec_l8split.l0:Nat→ByteArray→Int→Option (Int)
 |0,_,_=>none
 |k+1,x0,x1=>if(wrap64 (x1+4))≤(x0.size:Int)then(if 0≤x1 then(if x1<(x0.size:Int)then(if(bt x0 x1)=13 then(if x1≤(wrap64 (x1+4))then(if(x0.extract (x1:Int).toNat ((wrap64 (x1+4)):Int).toNat).toList=([13,10,13,10]:List UInt8)then(some (wrap64 (x1+4)))else(spec_l8split.l0 k x0 (wrap64 (x1+1))))else(none))else(spec_l8split.l0 k x0 (wrap64 (x1+1))))else(none))else(none))else(some (-1))
def spec_l8split.f (k:Nat) (a0:ByteArray):Option (Int):=spec_l8split.l0 k a0 0
theorem spec_l8split.calls (k:Nat) (a0:ByteArray) (r:Int) (w:World) (H:spec_l8split.f k a0=some r):
  Calls Tryz.prog 36 #[.string a0] w fun e w'=>e= .returned (.int .i64 r)∧Drawn0 w w':=by
 unfold spec_l8split.f at H;have H':=Aside0.mk H;clear H;go_enter Tryz.func36,Tryz.ntmps36
 go_wp2
 go_loopg [3] k (fun kq v0 w'=> ∃(x0:Int),v0= .int .i64 x0∧Aside0 (spec_l8split.l0 kq a0 x0=some r)∧Aside0 (kq≤k)∧Drawn0 w w')
 case atStart=>exact⟨(0),zr_,H',⟨Nat.le_refl _⟩,zd_⟩
 case round=>
  clear H';obtain⟨x0,rfl,HA,K0,⟨m1,rfl⟩⟩:=hrel
  cases gk with
  |zero=>exact absurd HA.out (by simp[spec_l8split.l0])
  |succ k0=>
   have H:=HA.out;clear HA;simp only[spec_l8split.l0]at H
   by_cases c0:(wrap64 (x0+4))≤(a0.size:Int)
   ·rw[if_pos c0]at H;have f0:=decide_eq_true c0;clear c0
    replace H:=ifS_ H;obtain⟨c1,H⟩:=H;have f1:=decide_eq_true c1;clear c1
    replace H:=ifS_ H;obtain⟨c2,H⟩:=H;have f2:=decide_eq_true c2;clear c2;have C0:=Aside0.mk H;clear H;have p0:0≤(x0:Int):=of_decide_eq_true za_;have q0:x0<(a0.size:Int):=of_decide_eq_true za_;have h0:=bt_at a0 x0;replace p0:=eq_true p0;replace q0:=eq_true q0
    repeat' (first|(go_big_may;(fail))|go_values|go_skip|go_big_skip|go_big_want|((first|(with_reducible refine gate_nog rfl ?_)|(fail_if_success with_reducible refine gate_any ?_));go_step)|go_upon|simp only[Bool.not_true,Bool.not_false,Bool.true_and,Bool.false_and,Bool.true_or,Bool.false_or]|dsimp only)
    have H:=C0.out;clear C0
    by_cases c3:(bt a0 x0)=13
    ·rw[if_pos c3]at H;obtain⟨f3,f4⟩:=bqT_ c3;clear c3;(first|rw[f3]|(simp only[i64_w,i32_w];rw[f3])|rw[f4]|(rw[f5];simp only[Bool.not_true,Bool.not_false])|skip);have f6:=eq_true (of_decide_eq_true za_:0≤x0)
     replace H:=ifS_ H;obtain⟨c4,H⟩:=H;obtain⟨f7,f8⟩:=dT_ c4;have f9:=eq_true (of_decide_eq_true za_:(wrap64 (x0+4))≤(a0.size:Int))
     by_cases c5:(a0.extract (x0:Int).toNat ((wrap64 (x0+4)):Int).toNat).toList=([13,10,13,10]:List UInt8)
     ·rw[if_pos c5]at H;obtain⟨f10,f11⟩:=bqT_ c5;clear c5;obtain rfl:=Option.some.inj H;go_wp2
      go_ret;exact⟨zr_,zd_⟩
     ·rw[if_neg c5]at H;obtain⟨f10,f11⟩:=bqF_ c5;have H':=Aside0.mk H;clear H;go_wp2
      go_roundg k0
      (case measure=>have:=K0.out;omega);case rel=>exact⟨(wrap64 (x0+1)),zr_,H',⟨zz4⟩,zd_⟩
    ·rw[if_neg c3]at H;obtain⟨f3,f4⟩:=bqF_ c3;(first|rw[f3]|(simp only[i64_w,i32_w];rw[f3])|rw[f4]|(rw[f5];simp only[Bool.not_true,Bool.not_false])|skip);have H':=Aside0.mk H;clear H;go_wp2
     go_roundg k0
     (case measure=>have:=K0.out;omega);case rel=>exact⟨(wrap64 (x0+1)),zr_,H',⟨zz4⟩,zd_⟩
   ·rw[if_neg c0]at H;have f0:=decide_eq_false c0;clear c0;obtain rfl:=Option.some.inj H;go_wp2
    go_ret;exact⟨zr_,zd_⟩
def spec_Payload.f (k:Nat) (a0:ByteArray):Option (ByteArray×Bool):=(spec_l8split.f k a0).bind fun t0=>(if t0<0 then(some ((⟨#[]⟩:ByteArray),false))else(if 0≤t0 then(if t0≤(a0.size:Int)then(some (a0.extract (t0:Int).toNat a0.size,true))else(none))else(none)))
theorem spec_Payload.calls (k:Nat) (a0 r1:ByteArray) (r2:Bool) (w:World) (H:spec_Payload.f k a0=some (r1,r2)):
  Calls Tryz.prog 14 #[.string a0] w fun e w'=>e= .returned (.tuple #[.string r1,.bool r2])∧Drawn0 w w':=by
 unfold spec_Payload.f at H;replace H:=bS_ H;obtain⟨t0,A0,H⟩:=H;(try dsimp only at H);have C0:=Aside0.mk H;clear H;go_enter Tryz.func14,Tryz.ntmps14
 go_upto_if 8 with(first|((with_reducible refine gc_ 36 rfl ?_);refine gR 6 Tryz.func36 (spec_l8split.calls k a0 t0 _ A0.out) ?_;rintro w' ⟨nd,rfl⟩))
 (try simp only[Act.put,List.setIfInBounds_toArray,List.set_cons_zero,List.set_cons_succ]);have H:=C0.out;clear C0
 by_cases c0:t0<0
 ·rw[if_pos c0]at H;have f0:=decide_eq_true c0;clear c0;(first|rw[f0]|(simp only[i64_w,i32_w];rw[f0])|skip);simp only[Option.some.injEq,Prod.mk.injEq]at H;obtain⟨rfl,rfl⟩:=H;go_wp2
  go_ret2
  exact⟨zr_,zd_⟩
 ·rw[if_neg c0]at H;have f0:=decide_eq_false c0;clear c0;(first|rw[f0]|(simp only[i64_w,i32_w];rw[f0])|skip)
  replace H:=ifS_ H;obtain⟨c1,H⟩:=H;obtain⟨f1,f2⟩:=dT_ c1;clear c1
  replace H:=ifS_ H;obtain⟨c2,H⟩:=H;obtain⟨f3,f4⟩:=dT_ c2;clear c2;simp only[Option.some.injEq,Prod.mk.injEq]at H;obtain⟨rfl,rfl⟩:=H;go_wp2
  go_ret2
  exact⟨zr_,zd_⟩
def spec_l1bit.f (a0:ByteArray) (a1:Int):Option (Int):=if(wrap64 (Int.tdiv a1 8))≥(a0.size:Int)then(some 0)else(if 0≤(wrap64 (Int.tdiv a1 8))then(if(wrap64 (Int.tdiv a1 8))<(a0.size:Int)then(if 0≤(wrap64 (7-(Int.tmod a1 8)))then(some (Go.bits .and .i64 (shr .i64 (wrap64 (bt a0 (wrap64 (Int.tdiv a1 8)))) (wrap64 (7-(Int.tmod a1 8)))) 1))else(none))else(none))else(none))
theorem spec_l1bit.calls (a0:ByteArray) (a1 r:Int) (w:World) (H:spec_l1bit.f a0 a1=some r):
  Calls Tryz.prog 54 #[.string a0,.int .i64 a1] w fun e w'=>e= .returned (.int .i64 r)∧Drawn0 w w':=by
 unfold spec_l1bit.f at H
 by_cases c0:(wrap64 (Int.tdiv a1 8))≥(a0.size:Int)
 ·rw[if_pos c0]at H;have f0:=decide_eq_true c0;clear c0;obtain rfl:=Option.some.inj H;go_enter Tryz.func54,Tryz.ntmps54
  go_wp2
  go_ret;exact⟨zr_,zd_⟩
 ·rw[if_neg c0]at H;have f0:=decide_eq_false c0;clear c0;generalize h0:(wrap64 (Int.tdiv a1 8))=j0 at H
  (try rw[h0]at f0);have h1:(IntKind.i64.wrap (Int.tdiv a1 8))=j0:=(i64_w _).trans h0
  replace H:=ifS_ H;obtain⟨c1,H⟩:=H;have f1:=decide_eq_true c1;clear c1
  replace H:=ifS_ H;obtain⟨c2,H⟩:=H;have f2:=decide_eq_true c2;clear c2;generalize h2:(wrap64 (7-(Int.tmod a1 8)))=j1 at H
  have h3:(IntKind.i64.wrap (7-(Int.tmod a1 8)))=j1:=(i64_w _).trans h2
  replace H:=ifS_ H;obtain⟨c3,H⟩:=H;obtain⟨f3,f4⟩:=dT_ c3;clear c3;generalize h4:(shr .i64 (wrap64 (bt a0 (j0))) (j1))=j2 at H
  have h5:((wrap64 (bt a0 (j0)))/2^min (j1).toNat 64)=j2:=h4;have h6:(j1)≤64→((wrap64 (bt a0 (j0)))/2^(j1).toNat)=j2:=shr_small h4;obtain rfl:=Option.some.inj H;have p0:0≤((j0):Int):=of_decide_eq_true za_;have q0:(j0)<(a0.size:Int):=of_decide_eq_true za_;have h7:=bt_at a0 (j0);replace p0:=eq_true p0;replace q0:=eq_true q0;go_enter Tryz.func54,Tryz.ntmps54
  go_wp2
  go_ret;exact⟨by first|rfl|(simp;done)|(simp only[←h0,←h2,←h4]<;>(first|rfl|simp))|(simp[*];done),zd_⟩
mutual
def spec_Base32.l0:Nat→ByteArray→List Int→Int→Option (ByteArray)
 |0,_,_,_=>none
 |k+1,x0,x1,x2=>if x2<(wrap64 (8*(x0.size:Int)))then(spec_Base32.l1 k x0 x1 x2 0 0)else(some (strOfNums x1))
def spec_Base32.l1:Nat→ByteArray→List Int→Int→Int→Int→Option (ByteArray)
 |0,_,_,_,_,_=>none
 |k+1,x0,x1,x2,x3,x4=>if x4<5 then((spec_l1bit.f x0 (wrap64 (x2+x4))).bind fun t0=>(spec_Base32.l1 k x0 x1 x2 (wrap64 ((wrap64 (2*x3))+t0)) (wrap64 (x4+1))))else(if 0≤x3 then(if x3<32 then(if x1.length<140737488355328 then(spec_Base32.l0 k x0 (x1++ [bt (⟨#[65,66,67,68,69,70,71,72,73,74,75,76,77,78,79,80,81,82,83,84,85,86,87,88,89,90,50,51,52,53,54,55]⟩:ByteArray) x3]) (wrap64 (x2+5)))else(none))else(none))else(none))
end
def spec_Base32.f (k:Nat) (a0:ByteArray):Option (ByteArray):=if(a0.size:Int)>4000 then(some (⟨#[]⟩:ByteArray))else(spec_Base32.l0 k a0 ([]:List Int) 0)
theorem spec_Base32.calls (k:Nat) (a0 r:ByteArray) (w:World) (H:spec_Base32.f k a0=some r):
  Calls Tryz.prog 37 #[.string a0] w fun e w'=>e= .returned (.string r)∧Below w.heap.size w w':=by
 have HB:=Aside0.mk (Below.refl w.heap.size w);unfold spec_Base32.f at H
 by_cases c0:(a0.size:Int)>4000
 ·rw[if_pos c0]at H;have f0:=decide_eq_true c0;have f1:decide (4000<a0.size)=true:=decide_eq_true zz5;clear c0;obtain rfl:=Option.some.inj H;go_enter Tryz.func37,Tryz.ntmps37
  go_wp2
  go_ret;exact⟨ze_,zb_⟩
 ·rw[if_neg c0]at H;have f0:=decide_eq_false c0;have f1:decide (4000<a0.size)=false:=decide_eq_false zz5;clear c0;have H':=Aside0.mk H;clear H;go_enter Tryz.func37,Tryz.ntmps37
  go_wp2
  go_loopg [3,4] k (fun kq v0 v1 w'=> ∃(x0:List Int) (x1:Int),v1= .int .i64 x1∧Aside0 (spec_Base32.l0 kq a0 x0 x1=some r)∧Aside0 (kq≤k)∧Aside0 (Kd.R (Kd.int .u8) 5 w' w.heap.size (fun _=>True) v0 x0)∧Aside0 (Below w.heap.size w w'))
  case atStart=>exact⟨(([]:List Int)),(0),zr_,H',⟨Nat.le_refl _⟩,⟨zn_⟩,⟨zb_⟩⟩
  case round=>
   clear H';(try clear c0);(try clear f0);(try clear f1);(try clear p0);obtain⟨x0,x1,rfl,HA,K0,O0,HB⟩:=hrel
   cases gk with
   |zero=>exact absurd HA.out (by simp[spec_Base32.l0])
   |succ k0=>
    have H:=HA.out;clear HA;simp only[spec_Base32.l0]at H
    by_cases c1:x1<(wrap64 (8*(a0.size:Int)))
    ·rw[if_pos c1]at H;have f2:=decide_eq_true c1;clear c1;have H':=Aside0.mk H;clear H;go_wp2
     go_loopg [5,6] k0 (fun kq v2 v3 w'=> ∃(x2 x3:Int),v2= .int .i64 x2∧v3= .int .i64 x3∧Aside0 (spec_Base32.l1 kq a0 x0 x1 x2 x3=some r)∧Aside0 (kq≤k0)∧Aside0 (Kd.R (Kd.int .u8) 5 w' w.heap.size (fun _=>True) u3 x0)∧Aside0 (Below w.heap.size w w'))
     case atStart=>exact⟨(0),(0),zr_,zr_,H',⟨Nat.le_refl _⟩,⟨(kr_ O0)⟩,⟨zb_⟩⟩
     case round=>
      clear H';(try clear c0);(try clear f0);(try clear f1);(try clear p0);(try clear c1);(try clear f2);(try clear p0);obtain⟨x2,x3,rfl,rfl,HA,K1,O0,HB⟩:=hrel
      cases gk with
      |zero=>exact absurd HA.out (by simp[spec_Base32.l1])
      |succ k1=>
       have H:=HA.out;clear HA;simp only[spec_Base32.l1]at H
       by_cases c2:x3<5
       ·rw[if_pos c2]at H;have f3:=decide_eq_true c2;clear c2;replace H:=bS_ H;obtain⟨t0,A0,H⟩:=H;(try dsimp only at H);have H':=Aside0.mk H;clear H;go_wp2_with (first|((with_reducible refine gc_ 54 rfl ?_);refine gR 27 Tryz.func54 (spec_l1bit.calls a0 (wrap64 (x1+x3)) t0 _ A0.out) ?_;rintro w' ⟨nd,rfl⟩))
        go_roundg k1
        (case measure=>have:=K0.out;have:=K1.out;omega);case rel=>exact⟨(wrap64 ((wrap64 (2*x2))+t0)),(wrap64 (x3+1)),zr_,zr_,H',⟨zz8⟩,⟨(kr_ O0)⟩,⟨zb_⟩⟩
       ·rw[if_neg c2]at H;have f3:=decide_eq_false c2;clear c2
        replace H:=ifS_ H;obtain⟨c3,H⟩:=H;have f4:=decide_eq_true c3;clear c3
        replace H:=ifS_ H;obtain⟨c4,H⟩:=H;have f5:=decide_eq_true c4;clear c4
        replace H:=ifS_ H;obtain⟨c5,H⟩:=H;have L0:=Aside0.mk c5;clear c5;generalize h0:(x0++ [bt (⟨#[65,66,67,68,69,70,71,72,73,74,75,76,77,78,79,80,81,82,83,84,85,86,87,88,89,90,50,51,52,53,54,55]⟩:ByteArray) x2]:List Int)=y0 at H;have Y0:=Aside0.mk h0.symm;clear h0;have H':=Aside0.mk H;clear H;have p1:0≤(x2:Int):=of_decide_eq_true za_;have q0:x2<(32:Int):=of_decide_eq_true za_;have h1:=bt_at (⟨#[65,66,67,68,69,70,71,72,73,74,75,76,77,78,79,80,81,82,83,84,85,86,87,88,89,90,50,51,52,53,54,55]⟩:ByteArray) x2;replace p1:=eq_true p1;replace q0:=eq_true q0;go_wp2_with (first|((with_reducible refine gate_builtin (b:= .append) (xs:= #[.tmp 29,.tmp 32]) rfl ?_);at_builtin;refine Kd.R_append (Kd.int .u8) (w0:=w) w.heap.size rfl (.tmp 29) (.tmp 32) 40 5 (.int .u8 0) 1 rfl Tryz.underlying40 info5 rfl zz2 zz5 u3 x0 (bt (⟨#[65,66,67,68,69,70,71,72,73,74,75,76,77,78,79,80,81,82,83,84,85,86,87,88,89,90,50,51,52,53,54,55]⟩:ByteArray) x2) [.int .u8 (bt (⟨#[65,66,67,68,69,70,71,72,73,74,75,76,77,78,79,80,81,82,83,84,85,86,87,88,89,90,50,51,52,53,54,55]⟩:ByteArray) x2)] (fun _=>True) (fun _=>False) rfl rfl ?aP (fun _ hk=>hk.elim) ?aF ?aO ?aB ?aS ?aL ?_;(case aP=>exact rfl);(case aB=>exact zb_);(case aF=>exact(fun _ _=>trivial));(case aO=>exact (kr_ O0));(case aS=>exact(below_size zb_));(case aL=>have:=L0.out;omega);intro v4 w1 ho hb hg hat;rw[←Y0.out]at ho;replace HB:=Aside0.mk (hb);have O1:=Aside0.mk (ho);clear O0;clear ho hb hg hat))
        go_roundg k1
        (case measure=>have:=K0.out;have:=K1.out;omega);case rel=>exact⟨(y0),(wrap64 (x1+5)),zr_,H',⟨zz8⟩,⟨by(with_reducible repeat(first|apply Kd.R_alloc|apply Kd.R_drewN|apply Kd.R_drew));exact O1.out⟩,⟨zb_⟩⟩
    ·rw[if_neg c1]at H;have f2:=decide_eq_false c1;clear c1;obtain rfl:=Option.some.inj H;have hcv11:=own_string (P:=Tryz.prog) Tryz.underlying40 Tryz.underlying5 Tryz.underlying9 (Kd.own_of_R O0.out);go_wp2
     go_ret;exact⟨ze_,zb_⟩
def spec_l3word.f (a0:Int):Option (Bool):=if a0≥0 then(some (decide (a0≤4294967295)))else(some false)
theorem spec_l3word.calls (a0:Int) (r:Bool) (w:World) (H:spec_l3word.f a0=some r):
  Calls Tryz.prog 148 #[.int .i64 a0] w fun e w'=>e= .returned (.bool r)∧Drawn0 w w':=by
 unfold spec_l3word.f at H
 by_cases c0:a0≥0
 ·rw[if_pos c0]at H;have f0:=decide_eq_true c0;clear c0;obtain rfl:=Option.some.inj H;go_enter Tryz.func148,Tryz.ntmps148
  go_wp2
  go_ret;exact⟨zr_,zd_⟩
 ·rw[if_neg c0]at H;have f0:=decide_eq_false c0;clear c0;obtain rfl:=Option.some.inj H;go_enter Tryz.func148,Tryz.ntmps148
  go_wp2
  go_ret;exact⟨zr_,zd_⟩
def spec_l3words.l0:Nat→List Int→Int→Option (Bool)
 |0,_,_=>none
 |k+1,x0,x1=>if x1<5 then(if 0≤x1 then(if x1<(x0.length:Int)then((spec_l3word.f (rd x0 x1)).bind fun t0=>(if t0=true then(spec_l3words.l0 k x0 (wrap64 (x1+1)))else(some false)))else(none))else(none))else(some true)
def spec_l3words.f (k:Nat) (l0:List Int):Option (Bool):=if(l0.length:Int)=5 then(spec_l3words.l0 k l0 0)else(some false)
theorem spec_l3words.calls (k:Nat) (A0:Option Addr) (c0:Nat) (l0:List Int) (r:Bool) (w:World) (h0:Kd.C (Kd.int .i64) w A0 l0.length l0) (hc0:l0.length≤c0) (H:spec_l3words.f k l0=some r):
  Calls Tryz.prog 116 #[.slice A0 l0.length c0] w fun e w'=>e= .returned (.bool r)∧Drawn0 w w':=by
 have HR0:=Aside0.mk h0;have C0:=Aside0.mk hc0;clear h0 hc0;unfold spec_l3words.f at H
 by_cases c1:(l0.length:Int)=5
 ·rw[if_pos c1]at H;obtain⟨f0,f1⟩:=bqT_ c1;clear c1;have H':=Aside0.mk H;clear H;go_enter Tryz.func116,Tryz.ntmps116
  go_wp2
  go_loopg [3] k (fun kq v0 w'=> ∃(x0:Int),v0= .int .i64 x0∧Aside0 (spec_l3words.l0 kq l0 x0=some r)∧Aside0 (kq≤k)∧Drawn0 w w')
  case atStart=>exact⟨(0),zr_,H',⟨Nat.le_refl _⟩,zd_⟩
  case round=>
   clear H';(try clear c2);(try clear c1);(try clear f0);(try clear f1);(try clear p0);obtain⟨x0,rfl,HA,K0,⟨m1,rfl⟩⟩:=hrel
   cases gk with
   |zero=>exact absurd HA.out (by simp[spec_l3words.l0])
   |succ k0=>
    have H:=HA.out;clear HA;simp only[spec_l3words.l0]at H
    by_cases c3:x0<5
    ·rw[if_pos c3]at H;have f2:=decide_eq_true c3;clear c3
     replace H:=ifS_ H;obtain⟨c4,H⟩:=H;have f3:=decide_eq_true c4;clear c4
     replace H:=ifS_ H;obtain⟨c5,H⟩:=H;have f4:=decide_eq_true c5;clear c5;replace H:=bS_ H;obtain⟨t0,A1,H⟩:=H;(try dsimp only at H);have C1:=Aside0.mk H;clear H;have p1:0≤(x0:Int):=of_decide_eq_true za_;have q0:x0<(l0.length:Int):=of_decide_eq_true za_;obtain⟨d0,e0,h1⟩:=Kd.at_int HR0.out x0 p1 q0;cases e0;replace p1:=eq_true p1;replace q0:=eq_true q0;go_upto_if 16 with(first|((with_reducible refine gc_ 148 rfl ?_);refine gR 15 Tryz.func148 (spec_l3word.calls (rd l0 x0) t0 _ A1.out) ?_;rintro w' ⟨nd,rfl⟩))
     (try simp only[Act.put,List.setIfInBounds_toArray,List.set_cons_zero,List.set_cons_succ]);have H:=C1.out;clear C1
     by_cases c6:t0=true
     ·subst c6;rw[if_pos rfl]at H;have H':=Aside0.mk H;clear H;go_wp2
      go_roundg k0
      (case measure=>have:=K0.out;omega);case rel=>exact⟨(wrap64 (x0+1)),zr_,H',⟨zz4⟩,zd_⟩
     ·replace c6:=Bool.eq_false_iff.mpr c6;subst c6;rw[if_neg Bool.false_ne_true]at H;obtain rfl:=Option.some.inj H;go_wp2
      go_ret;exact⟨zr_,zd_⟩
    ·rw[if_neg c3]at H;have f2:=decide_eq_false c3;clear c3;obtain rfl:=Option.some.inj H;go_wp2
     go_ret;exact⟨zr_,zd_⟩
 ·rw[if_neg c1]at H;obtain⟨f0,f1⟩:=bqF_ c1;obtain rfl:=Option.some.inj H;go_enter Tryz.func116,Tryz.ntmps116
  go_wp2
  go_ret;exact⟨zr_,zd_⟩
end Go.Proofs.YthmehmehoehlpaaGreatDoor.GFnExactRecText
