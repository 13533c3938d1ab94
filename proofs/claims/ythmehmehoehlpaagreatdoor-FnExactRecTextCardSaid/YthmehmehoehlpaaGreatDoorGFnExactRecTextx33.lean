-- Printed by gen.py and its programs for this claim.
import Derived.Test.YthmehmehoehlpaaGreatDoorGFnExactRecTextx0
import Derived.Test.YthmehmehoehlpaaGreatDoorGFnExactRecTextx20
import Derived.Test.YthmehmehoehlpaaGreatDoorGFnExactRecTextx27
import Derived.Test.YthmehmehoehlpaaGreatDoorGFnExactRecTextx32
import Derived.Test.YthmehmehoehlpaaGreatDoorZFnExactRecText
namespace Go.Proofs.YthmehmehoehlpaaGreatDoor.GFnExactRecText
open Go.RowKit Go.Proofs.YthmehmehoehlpaaGreatDoorW.PrintWords Go.Proofs.YthmehmehoehlpaaGreatDoorW.PrintLast Go.Proofs.YthmehmehoehlpaaGreatDoorW.PrintMore Go.Proofs.YthmehmehoehlpaaGreatDoorW.Zs
set_option maxHeartbeats 40000000
set_option maxRecDepth 100000
attribute [local go_sem] max2_int min2_int max_two min_two max_three min_three max_four min_four
set_option linter.unusedVariables false
set_option linter.unusedSimpArgs false
mutual
def impl_RecOk.j0:Nat→Bool→Int→Int→Int→ByteArray→Int→ByteArray→ByteArray→Option (Bool)
 |0,_,_,_,_,_,_,_,_=>none
 |k+1,x0,x1,x2,x3,x4,x5,x6,x7=>if x0=true then(some false)else(if x1=0 then(if x4.toList=([]:List UInt8)then(impl_RecOk.j1 k false x1 x2 x3 x4 x5 x6 x7)else(impl_RecOk.j1 k true x1 x2 x3 x4 x5 x6 x7))else((impl_isCanonical.f k x4).bind fun t0=>(impl_RecOk.j1 k (!t0) x1 x2 x3 x4 x5 x6 x7)))
def impl_RecOk.j1:Nat→Bool→Int→Int→Int→ByteArray→Int→ByteArray→ByteArray→Option (Bool)
 |0,_,_,_,_,_,_,_,_=>none
 |k+1,x0,x1,x2,x3,x4,x5,x6,x7=>if x0=true then(some false)else((impl_divided.f x7).bind fun b0=>(if x1=3 then(impl_RecOk.j2 k b0.2.1 b0.2.2 false x1 x2 x3 x4 x5 x6 x7)else(impl_RecOk.j2 k b0.2.1 b0.2.2 (x5 !=0) x1 x2 x3 x4 x5 x6 x7)))
def impl_RecOk.j2:Nat→ByteArray→Bool→Bool→Int→Int→Int→ByteArray→Int→ByteArray→ByteArray→Option (Bool)
 |0,_,_,_,_,_,_,_,_,_,_=>none
 |k+1,x0,x1,x2,x3,x4,x5,x6,x7,x8,x9=>if x2=true then(some false)else(if x3=1 then(if x8.toList=([]:List UInt8)then(some x1)else(some false))else(if x3=2 then(if x1=true then((impl_Label.f k x0).bind fun t0=>(some (x8.toList==t0.toList)))else(some false))else(if x3=3 then((impl_ReadLabel.f k x8).bind fun b0=>((impl_within.f x7 1 (wrap64 (x4-1))).bind fun t1=>(if t1=true then(if b0.2=true then(if x1=true then(some (x0.toList==([]:List UInt8)))else(some false))else(some false))else(some false))))else(some (x8.toList==([]:List UInt8))))))
end
def impl_RecOk.f (k:Nat) (a0 a1 a2:Int) (a3:ByteArray) (a4:Int) (a5 a6:ByteArray):Option (Bool):=(impl_within.f a0 0 4).bind fun t0=>(if t0=true then((impl_isId.f a1).bind fun t1=>(if t1=true then((impl_isTime.f a2).bind fun t2=>(if t2=true then(impl_RecOk.j0 k (decide ((a6.size:Int)>4000)) a0 a1 a2 a3 a4 a5 a6)else(impl_RecOk.j0 k true a0 a1 a2 a3 a4 a5 a6)))else(impl_RecOk.j0 k true a0 a1 a2 a3 a4 a5 a6)))else(impl_RecOk.j0 k true a0 a1 a2 a3 a4 a5 a6))
def impl_RecOk.T12:Bool×List (List Nat×List Nat):=(true,[([],[]),([0],[0]),([1],[1]),([2,1],[1,2]),([1],[1]),([4,1,1],[1,4]),([3,5,1],[1,3,5]),([1,6],[1,6]),([7,5,0,1,2,3,4,5,6,7],[7])])
def impl_RecOk.B12:List Nat:= [0,1,3,7,3,19,63,127,255]
theorem impl_RecOk.tab12:rtab .any (opsOf Tryz.f10 12)=impl_RecOk.T12:=by kernel_rfl
theorem impl_RecOk.bits12:waitsOk impl_RecOk.T12.2 impl_RecOk.B12=true:=by kernel_rfl
theorem impl_RecOk.calls (k:Nat) (a0 a1 a2:Int) (a3:ByteArray) (a4:Int) (a5 a6:ByteArray) (r:Bool) (w:World) (hG:Gl w) (H:impl_RecOk.f k a0 a1 a2 a3 a4 a5 a6=some r):
  Calls Tryz.prog 10 #[.agg #[.int .i64 a0,.int .i64 a1,.int .i64 a2,.string a3,.int .i64 a4,.string a5,.string a6]] w fun e w'=>e= .returned (.bool r)∧Below w.heap.size w w':=by
 have hu26:=Tryz.underlying26;have HG:=Aside0.mk hG;clear hG;have HB:=Aside0.mk (Below.refl w.heap.size w);unfold impl_RecOk.f at H;have C0:=Aside0.mk H;clear H;go_enter Tryz.func10,Tryz.ntmps10
 go_upto_region 1 with(first|((with_reducible refine gate_dst (N:=1) rfl ?_);(try(refine gate_guard (by rfl) ?_;dsimp only));refine boxP_ (N:=1) (cs:= #[.int .i64 a0,.int .i64 a1,.int .i64 a2,.string a3,.int .i64 a4,.string a5,.string a6]) (t:=26) ?_;intro g0 hg w0 hbox hb;have B0:=Aside0.mk (hbox);have G0:=geb_ (w:=w) hg zb_;replace HB:=Aside0.mk (below_step zb_ hb);clear hb hbox hg))
 (try simp only[Act.put,List.setIfInBounds_toArray,List.set_cons_zero,List.set_cons_succ]);go_cut [29] (fun v0 wc=> ∃(kq:Nat) (x0:Bool),v0= .bool x0∧Aside0 (impl_RecOk.j0 kq x0 a0 a1 a2 a3 a4 a5 a6=some r)∧Aside0 (kq≤k)∧Aside0 (wc.heap[g0]?=some (.cells #[.int .i64 a0,.int .i64 a1,.int .i64 a2,.string a3,.int .i64 a4,.string a5,.string a6] 26 (0,0)))∧Aside0 (Below w.heap.size w wc))
 case first=>
  have H:=C0.out;clear C0;replace H:=bS_ H;obtain⟨t0,A0,H⟩:=H;(try dsimp only at H);have C1:=Aside0.mk H;clear H;obtain⟨_,_,_,_,_,_,_,_,_,_,_,_,_,_⟩:=cells7_ B0.out
  repeat' (first|(go_big_may;(first|((with_reducible refine gc_ 21 rfl ?_);refine gR 10 Tryz.func21 (impl_within.calls a0 0 4 t0 _ A0.out) ?_;rintro w' ⟨nd,rfl⟩)))|go_values|go_skip|go_big_skip|go_big_want|((first|(with_reducible refine gate_nog rfl ?_)|(fail_if_success with_reducible refine gate_any ?_));go_step)|go_upon|simp only[Bool.not_true,Bool.not_false,Bool.true_and,Bool.false_and,Bool.true_or,Bool.false_or]|dsimp only)
  (try simp only[Act.put,List.setIfInBounds_toArray,List.set_cons_zero,List.set_cons_succ]);(try(rw[drewN_self w0];generalize hq_:World.drewN w0 _=w0;replace B0:=dnB_ hq_ B0;replace HB:=dnH_ hq_ HB;clear hq_;obtain⟨_,_,_,_,_,_,_,_,_,_,_,_,_,_⟩:=cells7_ B0.out));have H:=C1.out;clear C1
  by_cases c0:t0=true
  ·subst c0;rw[if_pos rfl]at H;replace H:=bS_ H;obtain⟨t1,A1,H⟩:=H;(try dsimp only at H);have C2:=Aside0.mk H;clear H;obtain⟨_,_,_,_,_,_,_,_,_,_,_,_,_,_⟩:=cells7_ B0.out
   repeat' (first|(go_big_may;(first|(go_at_call 22;(with_reducible refine(impl_isId.calls a1 t1 _ A1.out).mono ?_);rintro e w' ⟨rfl,⟨nd,rfl⟩⟩)))|go_values|go_skip|go_big_skip|go_big_want|((first|(with_reducible refine gate_nog rfl ?_)|(fail_if_success with_reducible refine gate_any ?_));go_step)|go_upon|simp only[Bool.not_true,Bool.not_false,Bool.true_and,Bool.false_and,Bool.true_or,Bool.false_or]|dsimp only)
   (try simp only[Act.put,List.setIfInBounds_toArray,List.set_cons_zero,List.set_cons_succ]);(try(rw[drewN_self w0];generalize hq_:World.drewN w0 _=w0;replace B0:=dnB_ hq_ B0;replace HB:=dnH_ hq_ HB;clear hq_;obtain⟨_,_,_,_,_,_,_,_,_,_,_,_,_,_⟩:=cells7_ B0.out));have H:=C2.out;clear C2
   by_cases c1:t1=true
   ·subst c1;rw[if_pos rfl]at H;replace H:=bS_ H;obtain⟨t2,A2,H⟩:=H;(try dsimp only at H);have C3:=Aside0.mk H;clear H;obtain⟨_,_,_,_,_,_,_,_,_,_,_,_,_,_⟩:=cells7_ B0.out
    repeat' (first|(go_big_may;(first|(go_at_call 23;(with_reducible refine(impl_isTime.calls a2 t2 _ A2.out).mono ?_);rintro e w' ⟨rfl,⟨nd,rfl⟩⟩)))|go_values|go_skip|go_big_skip|go_big_want|((first|(with_reducible refine gate_nog rfl ?_)|(fail_if_success with_reducible refine gate_any ?_));go_step)|go_upon|simp only[Bool.not_true,Bool.not_false,Bool.true_and,Bool.false_and,Bool.true_or,Bool.false_or]|dsimp only)
    (try simp only[Act.put,List.setIfInBounds_toArray,List.set_cons_zero,List.set_cons_succ]);(try(rw[drewN_self w0];generalize hq_:World.drewN w0 _=w0;replace B0:=dnB_ hq_ B0;replace HB:=dnH_ hq_ HB;clear hq_;obtain⟨_,_,_,_,_,_,_,_,_,_,_,_,_,_⟩:=cells7_ B0.out));have H:=C3.out;clear C3
    by_cases c2:t2=true
    ·subst c2;rw[if_pos rfl]at H;have H':=Aside0.mk H;clear H;obtain⟨_,_,_,_,_,_,_,_,_,_,_,_,_,_⟩:=cells7_ B0.out;go_wp2
     go_meet
     case rel=>exact⟨_,(decide ((a6.size:Int)>4000)),zr_,H',⟨zo_⟩,⟨(bk_ B0)⟩,⟨zb_⟩⟩
    ·replace c2:=Bool.eq_false_iff.mpr c2;subst c2;rw[if_neg Bool.false_ne_true]at H;have H':=Aside0.mk H;clear H;go_wp2
     go_meet
     case rel=>exact⟨_,(true),zr_,H',⟨zo_⟩,⟨(bk_ B0)⟩,⟨zb_⟩⟩
   ·replace c1:=Bool.eq_false_iff.mpr c1;subst c1;rw[if_neg Bool.false_ne_true]at H;have H':=Aside0.mk H;clear H;go_wp2
    go_meet
    case rel=>exact⟨_,(true),zr_,H',⟨zo_⟩,⟨(bk_ B0)⟩,⟨zb_⟩⟩
  ·replace c0:=Bool.eq_false_iff.mpr c0;subst c0;rw[if_neg Bool.false_ne_true]at H;have H':=Aside0.mk H;clear H;go_wp2
   go_meet
   case rel=>exact⟨_,(true),zr_,H',⟨zo_⟩,⟨(bk_ B0)⟩,⟨zb_⟩⟩
 case rest=>
  clear C0;(try clear c3);(try clear c4);(try clear p0);(try clear c0);(try clear c5);(try clear c1);(try clear c2);(try clear h0);(try clear h1);(try clear h2);(try clear h3);(try clear h4);(try clear h5);(try clear h6);(try clear h7);(try clear h8);(try clear h9);(try clear h10);(try clear h11);(try clear h12);(try clear h13);(try clear h14);(try clear h15);(try clear h16);(try clear h17);(try clear h18);(try clear h19);(try clear h20);(try clear h21);(try clear h22);(try clear h23);(try clear h24);(try clear h25);(try clear h26);(try clear h27);(try clear h28);(try clear h29);(try clear h30);(try clear h31);(try clear h32);(try clear h33);(try clear h34);(try clear h35);(try clear h36);(try clear h37);(try clear h38);(try clear h39);(try clear h40);(try clear h41);(try clear h42);(try clear h43);(try clear h44);(try clear h45);(try clear h46);(try clear h47);(try clear h48);(try clear h49);(try clear h50);(try clear h51);(try clear h52);(try clear h53);(try clear h54);(try clear h55);obtain⟨kq,x0,rfl,HA,J0,B0,HB⟩:=hcut
  cases kq with
  |zero=>exact absurd HA.out (by simp[impl_RecOk.j0])
  |succ k0=>
   have H:=HA.out;clear HA;simp only[impl_RecOk.j0]at H
   by_cases c6:x0=true
   ·subst c6;rw[if_pos rfl]at H;obtain rfl:=Option.some.inj H;go_wp2
    go_ret;exact⟨ze_,zb_⟩
   ·replace c6:=Bool.eq_false_iff.mpr c6;subst c6;rw[if_neg Bool.false_ne_true]at H;have C4:=Aside0.mk H;clear H;go_upto_region 3 with(fail)
    go_cut [48] (fun v1 wc=> ∃(kq:Nat) (x1:Bool),v1= .bool x1∧Aside0 (impl_RecOk.j1 kq x1 a0 a1 a2 a3 a4 a5 a6=some r)∧Aside0 (kq≤k0)∧Aside0 (wc.heap[g0]?=some (.cells #[.int .i64 a0,.int .i64 a1,.int .i64 a2,.string a3,.int .i64 a4,.string a5,.string a6] 26 (0,0)))∧Aside0 (Below w.heap.size w wc))
    case first=>
     have H:=C4.out;clear C4;have C5:=Aside0.mk H;clear H;obtain⟨_,_,_,_,_,_,_,_,_,_,_,_,_,_⟩:=cells7_ B0.out
     repeat' (first|(go_big_may;(fail))|go_values|go_skip|go_big_skip|go_big_want|((first|(with_reducible refine gate_nog rfl ?_)|(fail_if_success with_reducible refine gate_any ?_));go_step)|go_upon|simp only[Bool.not_true,Bool.not_false,Bool.true_and,Bool.false_and,Bool.true_or,Bool.false_or]|dsimp only)
     have H:=C5.out;clear C5
     by_cases c7:a0=0
     ·rw[if_pos c7]at H;obtain⟨f0,f1⟩:=bqT_ c7;clear c7;(first|rw[f0]|(simp only[i64_w,i32_w];rw[f0])|rw[f1]|(rw[f2];simp only[Bool.not_true,Bool.not_false])|skip);have C6:=Aside0.mk H;clear H;obtain⟨_,_,_,_,_,_,_,_,_,_,_,_,_,_⟩:=cells7_ B0.out
      repeat' (first|(go_big_may;(fail))|go_values|go_skip|go_big_skip|go_big_want|((first|(with_reducible refine gate_nog rfl ?_)|(fail_if_success with_reducible refine gate_any ?_));go_step)|go_upon|simp only[Bool.not_true,Bool.not_false,Bool.true_and,Bool.false_and,Bool.true_or,Bool.false_or]|dsimp only)
      have H:=C6.out;clear C6
      by_cases c8:a3.toList=([]:List UInt8)
      ·rw[if_pos c8]at H;have f3:=beq_iff_eq.mpr c8;have f4:a3.toList.isEmpty=true:=by have hz_:=beq_iff_eq.1 f3;rw[hz_];rfl
       (try rw[f4]);have f5:=bne_eq_false_iff_eq.mpr c8;clear c8;(first|rw[f3]|(simp only[i64_w,i32_w];rw[f3])|rw[f5]|(rw[f6];simp only[Bool.not_true,Bool.not_false])|skip);have H':=Aside0.mk H;clear H;obtain⟨_,_,_,_,_,_,_,_,_,_,_,_,_,_⟩:=cells7_ B0.out;go_wp2
       go_meet
       case rel=>exact⟨_,(false),zr_,H',⟨zz23⟩,⟨(bk_ B0)⟩,⟨zb_⟩⟩
      ·rw[if_neg c8]at H;have f3:=beq_eq_false_iff_ne.mpr c8;have f4:a3.toList.isEmpty=false:=by cases hz_:a3.toList with|nil=>(rw[hz_]at f3;exact absurd f3 zz2)|cons _ _=>rfl
       (try rw[f4]);have f5:=bne_iff_ne.mpr c8;(first|rw[f3]|(simp only[i64_w,i32_w];rw[f3])|rw[f5]|(rw[f6];simp only[Bool.not_true,Bool.not_false])|skip);have H':=Aside0.mk H;clear H;go_wp2
       go_meet
       case rel=>exact⟨_,(true),zr_,H',⟨zz23⟩,⟨(bk_ B0)⟩,⟨zb_⟩⟩
     ·rw[if_neg c7]at H;obtain⟨f0,f1⟩:=bqF_ c7;(first|rw[f0]|(simp only[i64_w,i32_w];rw[f0])|rw[f1]|(rw[f2];simp only[Bool.not_true,Bool.not_false])|skip);replace H:=bS_ H;obtain⟨t3,A3,H⟩:=H;(try dsimp only at H);have H':=Aside0.mk H;clear H;obtain⟨_,_,_,_,_,_,_,_,_,_,_,_,_,_⟩:=cells7_ B0.out;go_wp2_with (first|(go_at_call 24;(with_reducible refine(impl_isCanonical.calls k0 a3 t3 _ (Gl.below HG.out zb_) A3.out).mono ?_);rintro e w1 ⟨rfl,hb⟩;have n0_:=Aside0.mk (blk_below (bk_ B0) hb);have n1_:=Aside0.mk (below_step zb_ hb);clear B0;clear HB;have B0:=n0_;have HB:=n1_;clear n0_ n1_;(try clear hb)))
      go_meet
      case rel=>exact⟨_,(!t3),zr_,H',⟨zz23⟩,⟨(bk_ B0)⟩,⟨zb_⟩⟩
    case rest=>
     clear C4;(try clear c3);(try clear c4);(try clear p0);(try clear c0);(try clear c5);(try clear c1);(try clear c2);(try clear c6);(try clear c7);(try clear f0);(try clear f1);(try clear c8);(try clear f3);(try clear f5);(try clear h0);(try clear h1);(try clear h2);(try clear h3);(try clear h4);(try clear h5);(try clear h6);(try clear h7);(try clear h8);(try clear h9);(try clear h10);(try clear h11);(try clear h12);(try clear h13);(try clear h14);(try clear h15);(try clear h16);(try clear h17);(try clear h18);(try clear h19);(try clear h20);(try clear h56);(try clear h57);(try clear h58);(try clear h59);(try clear h60);(try clear h61);(try clear h62);(try clear h63);(try clear h64);(try clear h65);(try clear h66);(try clear h67);(try clear h68);(try clear h69);(try clear h70);(try clear h71);(try clear h72);(try clear h73);(try clear h74);(try clear h75);(try clear h76);(try clear h77);(try clear h78);(try clear h79);(try clear h80);(try clear h81);(try clear h82);(try clear h83);(try clear h21);(try clear h22);(try clear h23);(try clear h24);(try clear h25);(try clear h26);(try clear h27);(try clear h28);(try clear h29);(try clear h30);(try clear h31);(try clear h32);(try clear h33);(try clear h34);(try clear h35);(try clear h36);(try clear h37);(try clear h38);(try clear h39);(try clear h40);(try clear h41);(try clear h42);(try clear h43);(try clear h44);(try clear h45);(try clear h46);(try clear h47);(try clear h48);(try clear h84);(try clear h85);(try clear h86);(try clear h87);(try clear h88);(try clear h89);(try clear h90);(try clear h91);(try clear h92);(try clear h93);(try clear h94);(try clear h95);(try clear h96);(try clear h97);(try clear h98);(try clear h99);(try clear h100);(try clear h101);(try clear h102);(try clear h103);(try clear h104);(try clear h105);(try clear h106);(try clear h107);(try clear h108);(try clear h109);(try clear h110);(try clear h111);(try clear h49);(try clear h50);(try clear h51);(try clear h52);(try clear h53);(try clear h54);(try clear h55);(try clear p0);obtain⟨kq,x1,rfl,HA,J1,B0,HB⟩:=hcut
     cases kq with
     |zero=>exact absurd HA.out (by simp[impl_RecOk.j1])
     |succ k1=>
      have H:=HA.out;clear HA;simp only[impl_RecOk.j1]at H
      by_cases c9:x1=true
      ·subst c9;rw[if_pos rfl]at H;obtain rfl:=Option.some.inj H;go_wp2
       go_ret;exact⟨ze_,zb_⟩
      ·replace c9:=Bool.eq_false_iff.mpr c9;subst c9;rw[if_neg Bool.false_ne_true]at H;replace H:=bS_ H;obtain⟨⟨t4,t5,t6⟩,A4,H⟩:=H;(try dsimp only at H);have C7:=Aside0.mk H;clear H;obtain⟨_,_,_,_,_,_,_,_,_,_,_,_,_,_⟩:=cells7_ B0.out;go_upto_region 6 with(first|((with_reducible refine gc_ 25 rfl ?_);refine gR 52 Tryz.func25 (impl_divided.calls a6 t4 t5 t6 _ (Gl.below HG.out zb_) A4.out) ?_;rintro w2 hb;replace B0:=Aside0.mk (blk_below (bk_ B0) hb);replace HB:=Aside0.mk (below_step zb_ hb);(try clear hb)))
       (try simp only[Act.put,List.setIfInBounds_toArray,List.set_cons_zero,List.set_cons_succ]);go_cut [63] (fun v2 wc=> ∃(kq:Nat) (x2:Bool),v2= .bool x2∧Aside0 (impl_RecOk.j2 kq t5 t6 x2 a0 a1 a2 a3 a4 a5 a6=some r)∧Aside0 (kq≤k1)∧Aside0 (wc.heap[g0]?=some (.cells #[.int .i64 a0,.int .i64 a1,.int .i64 a2,.string a3,.int .i64 a4,.string a5,.string a6] 26 (0,0)))∧Aside0 (Below w.heap.size w wc))
       case first=>
        have H:=C7.out;clear C7;have C8:=Aside0.mk H;clear H;obtain⟨_,_,_,_,_,_,_,_,_,_,_,_,_,_⟩:=cells7_ B0.out
        repeat' (first|(go_big_may;(fail))|go_values|go_skip|go_big_skip|go_big_want|((first|(with_reducible refine gate_nog rfl ?_)|(fail_if_success with_reducible refine gate_any ?_));go_step)|go_upon|simp only[Bool.not_true,Bool.not_false,Bool.true_and,Bool.false_and,Bool.true_or,Bool.false_or]|dsimp only)
        have H:=C8.out;clear C8
        by_cases c10:a0=3
        ·rw[if_pos c10]at H;obtain⟨f7,f8⟩:=bqT_ c10;clear c10;(first|rw[f7]|(simp only[i64_w,i32_w];rw[f7])|rw[f8]|(rw[f9];simp only[Bool.not_true,Bool.not_false])|skip);have H':=Aside0.mk H;clear H;go_wp2
         go_meet
         case rel=>exact⟨_,(false),zr_,H',⟨by have:=J0.out;have:=J1.out;first|omega|exact Nat.le_refl _⟩,⟨(bk_ B0)⟩,⟨zb_⟩⟩
        ·rw[if_neg c10]at H;obtain⟨f7,f8⟩:=bqF_ c10;(first|rw[f7]|(simp only[i64_w,i32_w];rw[f7])|rw[f8]|(rw[f9];simp only[Bool.not_true,Bool.not_false])|skip);have H':=Aside0.mk H;clear H;obtain⟨_,_,_,_,_,_,_,_,_,_,_,_,_,_⟩:=cells7_ B0.out;go_wp2
         go_meet
         case rel=>exact⟨_,((a4 !=0)),zr_,H',⟨by have:=J0.out;have:=J1.out;first|omega|exact Nat.le_refl _⟩,⟨(bk_ B0)⟩,⟨zb_⟩⟩
       case rest=>
        clear C7;(try clear c3);(try clear c4);(try clear p0);(try clear c11);(try clear c0);(try clear c5);(try clear c1);(try clear c2);(try clear c6);(try clear c7);(try clear f0);(try clear f1);(try clear c8);(try clear f3);(try clear f5);(try clear c12);(try clear c9);(try clear c10);(try clear f7);(try clear f8);(try clear h0);(try clear h1);(try clear h2);(try clear h3);(try clear h4);(try clear h5);(try clear h6);(try clear h7);(try clear h8);(try clear h9);(try clear h10);(try clear h11);(try clear h12);(try clear h13);(try clear h14);(try clear h15);(try clear h16);(try clear h17);(try clear h18);(try clear h19);(try clear h20);(try clear h56);(try clear h57);(try clear h58);(try clear h59);(try clear h60);(try clear h61);(try clear h62);(try clear h63);(try clear h64);(try clear h65);(try clear h66);(try clear h67);(try clear h68);(try clear h69);(try clear h70);(try clear h71);(try clear h72);(try clear h73);(try clear h74);(try clear h75);(try clear h76);(try clear h77);(try clear h78);(try clear h79);(try clear h80);(try clear h81);(try clear h82);(try clear h83);(try clear h112);(try clear h113);(try clear h114);(try clear h115);(try clear h116);(try clear h117);(try clear h118);(try clear h119);(try clear h120);(try clear h121);(try clear h122);(try clear h123);(try clear h124);(try clear h125);(try clear h126);(try clear h127);(try clear h128);(try clear h129);(try clear h130);(try clear h131);(try clear h132);(try clear h21);(try clear h22);(try clear h23);(try clear h24);(try clear h25);(try clear h26);(try clear h27);(try clear h28);(try clear h29);(try clear h30);(try clear h31);(try clear h32);(try clear h33);(try clear h34);(try clear h35);(try clear h36);(try clear h37);(try clear h38);(try clear h39);(try clear h40);(try clear h41);(try clear h42);(try clear h43);(try clear h44);(try clear h45);(try clear h46);(try clear h47);(try clear h48);(try clear h84);(try clear h85);(try clear h86);(try clear h87);(try clear h88);(try clear h89);(try clear h90);(try clear h91);(try clear h92);(try clear h93);(try clear h94);(try clear h95);(try clear h96);(try clear h97);(try clear h98);(try clear h99);(try clear h100);(try clear h101);(try clear h102);(try clear h103);(try clear h104);(try clear h105);(try clear h106);(try clear h107);(try clear h108);(try clear h109);(try clear h110);(try clear h111);(try clear h133);(try clear h134);(try clear h135);(try clear h136);(try clear h137);(try clear h138);(try clear h139);(try clear h140);(try clear h141);(try clear h142);(try clear h143);(try clear h144);(try clear h145);(try clear h146);(try clear h147);(try clear h148);(try clear h149);(try clear h150);(try clear h151);(try clear h152);(try clear h153);(try clear h49);(try clear h50);(try clear h51);(try clear h52);(try clear h53);(try clear h54);(try clear h55);(try clear p0);obtain⟨kq,x2,rfl,HA,J2,B0,HB⟩:=hcut
        cases kq with
        |zero=>exact absurd HA.out (by simp[impl_RecOk.j2])
        |succ k2=>
         have H:=HA.out;clear HA;simp only[impl_RecOk.j2]at H
         by_cases c13:x2=true
         ·subst c13;rw[if_pos rfl]at H;obtain rfl:=Option.some.inj H;go_wp2
          go_ret;exact⟨ze_,zb_⟩
         ·replace c13:=Bool.eq_false_iff.mpr c13;subst c13;rw[if_neg Bool.false_ne_true]at H
          by_cases c14:a0=1
          ·rw[if_pos c14]at H;obtain⟨f10,f11⟩:=bqT_ c14;clear c14;have C9:=Aside0.mk H;clear H;obtain⟨_,_,_,_,_,_,_,_,_,_,_,_,_,_⟩:=cells7_ B0.out
           repeat' (first|(go_big_may;(fail))|go_values|go_skip|go_big_skip|go_big_want|((first|(with_reducible refine gate_nog rfl ?_)|(fail_if_success with_reducible refine gate_any ?_));go_step)|go_upon|simp only[Bool.not_true,Bool.not_false,Bool.true_and,Bool.false_and,Bool.true_or,Bool.false_or]|dsimp only)
           have H:=C9.out;clear C9
           by_cases c15:a5.toList=([]:List UInt8)
           ·rw[if_pos c15]at H;have f12:=beq_iff_eq.mpr c15;have f13:a5.toList.isEmpty=true:=by have hz_:=beq_iff_eq.1 f12;rw[hz_];rfl
            (try rw[f13]);have f14:=bne_eq_false_iff_eq.mpr c15;clear c15;(first|rw[f12]|(simp only[i64_w,i32_w];rw[f12])|rw[f14]|(rw[f15];simp only[Bool.not_true,Bool.not_false])|skip);obtain rfl:=Option.some.inj H;go_wp2
            go_ret;exact⟨ze_,zb_⟩
           ·rw[if_neg c15]at H;have f12:=beq_eq_false_iff_ne.mpr c15;have f13:a5.toList.isEmpty=false:=by cases hz_:a5.toList with|nil=>(rw[hz_]at f12;exact absurd f12 zz2)|cons _ _=>rfl
            (try rw[f13]);have f14:=bne_iff_ne.mpr c15;(first|rw[f12]|(simp only[i64_w,i32_w];rw[f12])|rw[f14]|(rw[f15];simp only[Bool.not_true,Bool.not_false])|skip);obtain rfl:=Option.some.inj H;go_wp2
            go_ret;exact⟨ze_,zb_⟩
          ·rw[if_neg c14]at H;obtain⟨f10,f11⟩:=bqF_ c14
           by_cases c16:a0=2
           ·rw[if_pos c16]at H;obtain⟨f16,f17⟩:=bqT_ c16;clear c16
            by_cases c17:t6=true
            ·subst c17;rw[if_pos rfl]at H;replace H:=bS_ H;obtain⟨t7,A5,H⟩:=H;(try dsimp only at H);obtain rfl:=Option.some.inj H;obtain⟨_,_,_,_,_,_,_,_,_,_,_,_,_,_⟩:=cells7_ B0.out;(try go_wp2);replace B0:=Aside0.mk (blk_drew B0.out);replace HB:=Aside0.mk (below_drew1 HB.out);refine st_ (n:=9) (S:=fun w'=>w'.cell? ⟨g0,0,none⟩=some (.int .i64 a0)∧w'.cell? ⟨g0,1,none⟩=some (.int .i64 a1)∧w'.cell? ⟨g0,2,none⟩=some (.int .i64 a2)∧w'.cell? ⟨g0,3,none⟩=some (.string a3)∧w'.cell? ⟨g0,4,none⟩=some (.int .i64 a4)∧w'.cell? ⟨g0,5,none⟩=some (.string a5)∧w'.cell? ⟨g0,6,none⟩=some (.string a6)) (ds:= []) (hold7_ B0.out) (fun hHeld=>?_);refine with_tabW impl_RecOk.tab12 impl_RecOk.bits12 (fun HT_ HW_=>?_);generalize wc.drew=w3 at B0 HB hHeld ⊢;refine pz 0 76 ?_;refine pz 1 77 ?_;refine pz 2 78 ?_;refine pz 4 80 ?_;refine tk3_ 3 79 hHeld ?_;refine oZ 5 81 Tryz.func26 (impl_Label.calls k2 t5 t7 _ A5.out) (fun K hK=>?_);rintro w4 hb;replace B0:=Aside0.mk (blk_below (bk_ B0) hb);replace HB:=Aside0.mk (below_step zb_ hb);(try clear hb);refine hK.out _ _ (hold7_ B0.out) (fun hHeld=>?_);clear hK K;refine nz ?_;refine pz 6 82 ?_;refine pz 7 83 ?_;refine pz 8 2 ?_;refine done_ (done_of HT_.out zz0) ?_;(try go_wp2);go_ret;exact⟨ze_,zb_⟩
            ·replace c17:=Bool.eq_false_iff.mpr c17;subst c17;rw[if_neg Bool.false_ne_true]at H;obtain rfl:=Option.some.inj H;obtain⟨_,_,_,_,_,_,_,_,_,_,_,_,_,_⟩:=cells7_ B0.out;(try go_wp2);replace B0:=Aside0.mk (blk_drew B0.out);replace HB:=Aside0.mk (below_drew1 HB.out);refine st_ (n:=9) (S:=fun w'=>True) (ds:= []) trivial (fun hHeld=>?_);refine with_tabW impl_RecOk.tab12 impl_RecOk.bits12 (fun HT_ HW_=>?_);generalize wc.drew=w5 at B0 HB hHeld ⊢;refine pz 0 76 ?_;refine pz 1 77 ?_;refine pu 2 78 ?_;refine pu 3 79 ?_;refine pu 4 80 ?_;refine pu 5 81 ?_;refine pu 6 82 ?_;refine pz 7 83 ?_;refine pz 8 2 ?_;refine done_ (done_of HT_.out zz0) ?_;(try go_wp2);go_ret;exact⟨ze_,zb_⟩
           ·rw[if_neg c16]at H;obtain⟨f16,f17⟩:=bqF_ c16
            by_cases c18:a0=3
            ·rw[if_pos c18]at H;obtain⟨f18,f19⟩:=bqT_ c18;clear c18;replace H:=bS_ H;obtain⟨⟨t8,t9⟩,A6,H⟩:=H;(try dsimp only at H);replace H:=bS_ H;obtain⟨t10,A7,H⟩:=H;(try dsimp only at H);have C10:=Aside0.mk H;clear H;obtain⟨_,_,_,_,_,_,_,_,_,_,_,_,_,_⟩:=cells7_ B0.out
             repeat' (first|(go_big_may;(first|((with_reducible refine gc_ 27 rfl ?_);refine gR 89 Tryz.func27 (impl_ReadLabel.calls k2 a5 t8 t9 _ A6.out) ?_;rintro w6 hb;replace B0:=Aside0.mk (blk_below (bk_ B0) hb);replace HB:=Aside0.mk (below_step zb_ hb);(try clear hb);obtain⟨_,_,_,_,_,_,_,_,_,_,_,_,_,_⟩:=cells7_ B0.out)|((with_reducible refine gc_ 21 rfl ?_);refine gR 97 Tryz.func21 (impl_within.calls a4 1 (wrap64 (a1-1)) t10 _ A7.out) ?_;rintro w' ⟨nd,rfl⟩)))|go_values|go_skip|go_big_skip|go_big_want|((first|(with_reducible refine gate_nog rfl ?_)|(fail_if_success with_reducible refine gate_any ?_));go_step)|go_upon|simp only[Bool.not_true,Bool.not_false,Bool.true_and,Bool.false_and,Bool.true_or,Bool.false_or]|dsimp only)
             (try simp only[Act.put,List.setIfInBounds_toArray,List.set_cons_zero,List.set_cons_succ]);(try(rw[drewN_self w6];generalize hq_:World.drewN w6 _=w6;replace B0:=dnB_ hq_ B0;replace HB:=dnH_ hq_ HB;clear hq_;obtain⟨_,_,_,_,_,_,_,_,_,_,_,_,_,_⟩:=cells7_ B0.out));have H:=C10.out;clear C10
             by_cases c19:t10=true
             ·subst c19;rw[if_pos rfl]at H
              by_cases c20:t9=true
              ·subst c20;rw[if_pos rfl]at H
               by_cases c21:t6=true
               ·subst c21;rw[if_pos rfl]at H;obtain rfl:=Option.some.inj H;go_wp2
                go_ret;exact⟨ze_,zb_⟩
               ·replace c21:=Bool.eq_false_iff.mpr c21;subst c21;rw[if_neg Bool.false_ne_true]at H;obtain rfl:=Option.some.inj H;go_wp2
                go_ret;exact⟨ze_,zb_⟩
              ·replace c20:=Bool.eq_false_iff.mpr c20;subst c20;rw[if_neg Bool.false_ne_true]at H;obtain rfl:=Option.some.inj H;go_wp2
               go_ret;exact⟨ze_,zb_⟩
             ·replace c19:=Bool.eq_false_iff.mpr c19;subst c19;rw[if_neg Bool.false_ne_true]at H;obtain rfl:=Option.some.inj H;go_wp2
              go_ret;exact⟨ze_,zb_⟩
            ·rw[if_neg c18]at H;obtain⟨f18,f19⟩:=bqF_ c18;obtain rfl:=Option.some.inj H;obtain⟨_,_,_,_,_,_,_,_,_,_,_,_,_,_⟩:=cells7_ B0.out;go_wp2
             go_ret;exact⟨ze_,zb_⟩
end Go.Proofs.YthmehmehoehlpaaGreatDoor.GFnExactRecText
