-- Printed by gen.py and its programs for this claim.
import Derived.Test.YthmehmehoehlpaaGreatDoorGFnExactRecTextx0
import Derived.Test.YthmehmehoehlpaaGreatDoorGFnExactRecTextx20
import Derived.Test.YthmehmehoehlpaaGreatDoorGFnExactRecTextx22
import Derived.Test.YthmehmehoehlpaaGreatDoorGFnExactRecTextx23
import Derived.Test.YthmehmehoehlpaaGreatDoorGFnExactRecTextx25
import Derived.Test.YthmehmehoehlpaaGreatDoorZFnExactRecText
namespace Go.Proofs.YthmehmehoehlpaaGreatDoor.GFnExactRecText
open Go.RowKit Go.Proofs.YthmehmehoehlpaaGreatDoorW.PrintWords Go.Proofs.YthmehmehoehlpaaGreatDoorW.PrintLast Go.Proofs.YthmehmehoehlpaaGreatDoorW.PrintMore Go.Proofs.YthmehmehoehlpaaGreatDoorW.Zs
set_option maxHeartbeats 40000000
set_option maxRecDepth 100000
attribute [local go_sem] max2_int min2_int max_two min_two max_three min_three max_four min_four
set_option linter.unusedVariables false
set_option linter.unusedSimpArgs false
mutual
def impl_ReadUrl.j0:Nat→ByteArray→Bool→Option (ByteArray×Int×ByteArray×ByteArray×Bool×Bool)
 |0,_,_=>none
 |k+1,x0,x1=>if x1=true then(some ((⟨#[]⟩:ByteArray),0,(⟨#[]⟩:ByteArray),(⟨#[]⟩:ByteArray),false,false))else(if 7≤(x0.size:Int)then((strings_IndexAny.f (x0.extract 7 x0.size) (⟨#[47,63]⟩:ByteArray)).bind fun t0=>(if t0<0 then(impl_ReadUrl.j1 k (x0.extract 7 x0.size) ((x0.extract 7 x0.size).size:Int))else(impl_ReadUrl.j1 k (x0.extract 7 x0.size) t0)))else(none))
def impl_ReadUrl.j1:Nat→ByteArray→Int→Option (ByteArray×Int×ByteArray×ByteArray×Bool×Bool)
 |0,_,_=>none
 |k+1,x0,x1=>if 0≤x1 then(if x1≤(x0.size:Int)then((strings_Cut.f (x0.extract 0 (x1:Int).toNat) (⟨#[58]⟩:ByteArray)).bind fun b0=>((impl_readPath.f (x0.extract (x1:Int).toNat x0.size)).bind fun b1=>((impl_Fold.f b0.1).bind fun t0=>(if b0.2.2=true then((impl_ReadDec.f b0.2.1).bind fun b2=>(if b2.2=true then(impl_ReadUrl.j2 k t0 b2.1 b1.2.2.1 b1.2.2.2.1 b1.2.2.2.2)else(some ((⟨#[]⟩:ByteArray),0,(⟨#[]⟩:ByteArray),(⟨#[]⟩:ByteArray),false,false))))else(impl_ReadUrl.j2 k t0 80 b1.2.2.1 b1.2.2.2.1 b1.2.2.2.2)))))else(none))else(none)
def impl_ReadUrl.j2:Nat→ByteArray→Int→ByteArray→ByteArray→Bool→Option (ByteArray×Int×ByteArray×ByteArray×Bool×Bool)
 |0,_,_,_,_,_=>none
 |k+1,x0,x1,x2,x3,x4=>if x2.toList=([]:List UInt8)then(impl_ReadUrl.j3 k x0 x1 (⟨#[47]⟩:ByteArray) x3 x4)else(impl_ReadUrl.j3 k x0 x1 x2 x3 x4)
def impl_ReadUrl.j3:Nat→ByteArray→Int→ByteArray→ByteArray→Bool→Option (ByteArray×Int×ByteArray×ByteArray×Bool×Bool)
 |0,_,_,_,_,_=>none
 |k+1,x0,x1,x2,x3,x4=>(impl_CleanPath.f k x2).bind fun t0=>((impl_UrlOk.f k x0 x1 t0 x3 x4).bind fun t1=>(if t1=true then(some (x0,x1,t0,x3,x4,true))else(some ((⟨#[]⟩:ByteArray),0,(⟨#[]⟩:ByteArray),(⟨#[]⟩:ByteArray),false,false))))
end
def impl_ReadUrl.f (k:Nat) (a0:ByteArray):Option (ByteArray×Int×ByteArray×ByteArray×Bool×Bool):=if(a0.size:Int)>200 then(impl_ReadUrl.j0 k a0 true)else((impl_all__impl_isVisible.f k a0).bind fun t0=>(if t0=true then((strings_Contains.f a0 (⟨#[35]⟩:ByteArray)).bind fun t1=>(if t1=true then(impl_ReadUrl.j0 k a0 true)else(if(a0.size:Int)<7 then(impl_ReadUrl.j0 k a0 true)else(if 0≤7 then(if 7≤(a0.size:Int)then((impl_Fold.f (a0.extract 0 7)).bind fun t2=>(impl_ReadUrl.j0 k a0 (t2.toList !=([104,116,116,112,58,47,47]:List UInt8))))else(none))else(none)))))else(impl_ReadUrl.j0 k a0 true)))
theorem impl_ReadUrl.calls (k:Nat) (a0 r1:ByteArray) (r2:Int) (r3 r4:ByteArray) (r5 r6:Bool) (w:World) (hG:Gl w) (H:impl_ReadUrl.f k a0=some (r1,r2,r3,r4,r5,r6)):
  Calls Tryz.prog 61 #[.string a0] w fun e w'=>e= .returned (.tuple #[.agg #[.string r1,.int .i64 r2,.string r3,.string r4,.bool r5],.bool r6])∧Below w.heap.size w w':=by
 have hu63:=Tryz.underlying63;have HG:=Aside0.mk hG;clear hG;have HB:=Aside0.mk (Below.refl w.heap.size w);unfold impl_ReadUrl.f at H;have C0:=Aside0.mk H;clear H;go_enter Tryz.func61,Tryz.ntmps61
 go_upto_region 1 with(first|((with_reducible refine gate_dst (N:=2) rfl ?_);(try(refine gate_guard (by rfl) ?_;dsimp only));refine boxP_ (N:=2) (cs:= #[.string (⟨#[]⟩:ByteArray),.int .i64 0,.string (⟨#[]⟩:ByteArray),.string (⟨#[]⟩:ByteArray),.bool false]) (t:=63) ?_;intro g0 hg w0 hbox hb;have B0:=Aside0.mk (hbox);have G0:=geb_ (w:=w) hg zb_;replace HB:=Aside0.mk (below_step zb_ hb);clear hb hbox hg))
 (try simp only[Act.put,List.setIfInBounds_toArray,List.set_cons_zero,List.set_cons_succ]);go_cut [34] (fun v0 wc=> ∃(kq:Nat) (x0:Bool),v0= .bool x0∧Aside0 (impl_ReadUrl.j0 kq a0 x0=some (r1,r2,r3,r4,r5,r6))∧Aside0 (kq≤k)∧Aside0 (wc.heap[g0]?=some (.cells #[.string (⟨#[]⟩:ByteArray),.int .i64 0,.string (⟨#[]⟩:ByteArray),.string (⟨#[]⟩:ByteArray),.bool false] 63 (0,0)))∧Aside0 (Below w.heap.size w wc))
 case first=>
  have H:=C0.out;clear C0
  by_cases c0:(a0.size:Int)>200
  ·rw[if_pos c0]at H;have f0:=decide_eq_true c0;have f1:decide (200<a0.size)=true:=decide_eq_true zz5;clear c0;(first|rw[f0]|(simp only[i64_w,i32_w];rw[f0])|rw[f1]|(rw[f2];simp only[Bool.not_true,Bool.not_false])|skip);have H':=Aside0.mk H;clear H;go_wp2
   go_meet
   case rel=>exact⟨_,(true),zr_,H',⟨zo_⟩,⟨(bk_ B0)⟩,⟨zb_⟩⟩
  ·rw[if_neg c0]at H;have f0:=decide_eq_false c0;have f1:decide (200<a0.size)=false:=decide_eq_false zz5;clear c0;(first|rw[f0]|(simp only[i64_w,i32_w];rw[f0])|rw[f1]|(rw[f2];simp only[Bool.not_true,Bool.not_false])|skip);replace H:=bS_ H;obtain⟨t0,A0,H⟩:=H;(try dsimp only at H);have C1:=Aside0.mk H;clear H
   repeat' (first|(go_big_may;(first|(go_at_call 83;(with_reducible refine(impl_all__impl_isVisible.calls k a0 t0 _ A0.out).mono ?_);rintro e w' ⟨rfl,⟨nd,rfl⟩⟩)))|go_values|go_skip|go_big_skip|go_big_want|((first|(with_reducible refine gate_nog rfl ?_)|(fail_if_success with_reducible refine gate_any ?_));go_step)|go_upon|simp only[Bool.not_true,Bool.not_false,Bool.true_and,Bool.false_and,Bool.true_or,Bool.false_or]|dsimp only)
   (try simp only[Act.put,List.setIfInBounds_toArray,List.set_cons_zero,List.set_cons_succ]);(try(rw[drewN_self w0];generalize hq_:World.drewN w0 _=w0;replace B0:=dnB_ hq_ B0;replace HB:=dnH_ hq_ HB;clear hq_;obtain⟨_,_,_,_,_,_,_,_,_,_⟩:=cells5_ B0.out));have H:=C1.out;clear C1
   by_cases c1:t0=true
   ·subst c1;rw[if_pos rfl]at H;replace H:=bS_ H;obtain⟨t1,A1,H⟩:=H;(try dsimp only at H);have C2:=Aside0.mk H;clear H
    repeat' (first|(go_big_may;(first|(go_at_call 85;(with_reducible refine(strings_Contains.calls a0 (⟨#[35]⟩:ByteArray) t1 _ (Gl.below HG.out zb_) A1.out).mono ?_);rintro e w1 ⟨rfl,hb⟩;have n0_:=Aside0.mk (blk_below (bk_ B0) hb);have n1_:=Aside0.mk (below_step zb_ hb);clear B0;clear HB;have B0:=n0_;have HB:=n1_;clear n0_ n1_;(try clear hb))))|go_values|go_skip|go_big_skip|go_big_want|((first|(with_reducible refine gate_nog rfl ?_)|(fail_if_success with_reducible refine gate_any ?_));go_step)|go_upon|simp only[Bool.not_true,Bool.not_false,Bool.true_and,Bool.false_and,Bool.true_or,Bool.false_or]|dsimp only)
    (try simp only[Act.put,List.setIfInBounds_toArray,List.set_cons_zero,List.set_cons_succ]);have H:=C2.out;clear C2
    by_cases c2:t1=true
    ·subst c2;rw[if_pos rfl]at H;have H':=Aside0.mk H;clear H;go_wp2
     go_meet
     case rel=>exact⟨_,(true),zr_,H',⟨zo_⟩,⟨(bk_ B0)⟩,⟨zb_⟩⟩
    ·replace c2:=Bool.eq_false_iff.mpr c2;subst c2;rw[if_neg Bool.false_ne_true]at H
     by_cases c3:(a0.size:Int)<7
     ·rw[if_pos c3]at H;have f3:=decide_eq_true c3;have f4:decide (a0.size<7)=true:=decide_eq_true zz5;clear c3;(first|rw[f3]|(simp only[i64_w,i32_w];rw[f3])|rw[f4]|(rw[f5];simp only[Bool.not_true,Bool.not_false])|skip);have H':=Aside0.mk H;clear H;go_wp2
      go_meet
      case rel=>exact⟨_,(true),zr_,H',⟨zo_⟩,⟨(bk_ B0)⟩,⟨zb_⟩⟩
     ·rw[if_neg c3]at H;have f3:=decide_eq_false c3;have f4:decide (a0.size<7)=false:=decide_eq_false zz5;clear c3;(first|rw[f3]|(simp only[i64_w,i32_w];rw[f3])|rw[f4]|(rw[f5];simp only[Bool.not_true,Bool.not_false])|skip)
      replace H:=ifS_ H;obtain⟨c4,H⟩:=H;obtain⟨f6,f7⟩:=dT_ c4;clear c4
      replace H:=ifS_ H;obtain⟨c5,H⟩:=H;obtain⟨f8,f9⟩:=dT_ c5;clear c5;replace H:=bS_ H;obtain⟨t2,A2,H⟩:=H;(try dsimp only at H);have H':=Aside0.mk H;clear H;go_wp2_with (first|(go_at_call 86;(with_reducible refine(impl_Fold.calls (a0.extract 0 7) t2 _ A2.out).mono ?_);rintro e w2 ⟨rfl,hb⟩;have n0_:=Aside0.mk (blk_below (bk_ B0) hb);have n1_:=Aside0.mk (below_step zb_ hb);clear B0;clear HB;have B0:=n0_;have HB:=n1_;clear n0_ n1_;(try clear hb)))
      go_meet
      case rel=>exact⟨_,((t2.toList !=([104,116,116,112,58,47,47]:List UInt8))),zr_,H',⟨zo_⟩,⟨(bk_ B0)⟩,⟨zb_⟩⟩
   ·replace c1:=Bool.eq_false_iff.mpr c1;subst c1;rw[if_neg Bool.false_ne_true]at H;have H':=Aside0.mk H;clear H;go_wp2
    go_meet
    case rel=>exact⟨_,(true),zr_,H',⟨zo_⟩,⟨(bk_ B0)⟩,⟨zb_⟩⟩
 case rest=>
  clear C0;(try clear c6);(try clear p0);(try clear c0);(try clear f0);(try clear f1);(try clear c7);(try clear c1);(try clear c2);(try clear c3);(try clear f3);(try clear f4);(try clear c4);(try clear f6);(try clear f7);(try clear c5);(try clear f8);(try clear f9);obtain⟨kq,x0,rfl,HA,J0,B0,HB⟩:=hcut
  cases kq with
  |zero=>exact absurd HA.out (by simp[impl_ReadUrl.j0])
  |succ k0=>
   have H:=HA.out;clear HA;simp only[impl_ReadUrl.j0]at H
   by_cases c8:x0=true
   ·subst c8;rw[if_pos rfl]at H;simp only[Option.some.injEq,Prod.mk.injEq]at H;obtain⟨rfl,rfl,rfl,rfl,rfl,rfl⟩:=H;obtain⟨_,_,_,_,_,_,_,_,_,_⟩:=cells5_ B0.out;go_wp2
    refine bodyPost_ret (results_ct rfl _ _ g0 63 #[.string (⟨#[]⟩:ByteArray),.int .i64 0,.string (⟨#[]⟩:ByteArray),.string (⟨#[]⟩:ByteArray),.bool false] (0,0) _ rfl (bk_ B0) Tryz.underlying63 rfl zz0) rfl ?_;exact⟨ze_,zb_⟩
   ·replace c8:=Bool.eq_false_iff.mpr c8;subst c8;rw[if_neg Bool.false_ne_true]at H
    replace H:=ifS_ H;obtain⟨c9,H⟩:=H;obtain⟨f10,f11⟩:=dT_ c9;clear c9;replace H:=bS_ H;obtain⟨t3,A3,H⟩:=H;(try dsimp only at H);have C3:=Aside0.mk H;clear H;go_upto_if 41 with(first|((with_reducible refine gc_ 87 rfl ?_);refine gR 39 Tryz.func87 (strings_IndexAny.calls (a0.extract 7 a0.size) (⟨#[47,63]⟩:ByteArray) t3 _ A3.out) ?_;rintro w3 hb;replace B0:=Aside0.mk (blk_below (bk_ B0) hb);replace HB:=Aside0.mk (below_step zb_ hb);(try clear hb)))
    (try simp only[Act.put,List.setIfInBounds_toArray,List.set_cons_zero,List.set_cons_succ]);go_cut [5] (fun v1 wc=> ∃(kq:Nat) (x1:Int),v1= .int .i64 x1∧Aside0 (impl_ReadUrl.j1 kq (a0.extract 7 a0.size) x1=some (r1,r2,r3,r4,r5,r6))∧Aside0 (kq≤k0)∧Aside0 (wc.heap[g0]?=some (.cells #[.string (⟨#[]⟩:ByteArray),.int .i64 0,.string (⟨#[]⟩:ByteArray),.string (⟨#[]⟩:ByteArray),.bool false] 63 (0,0)))∧Aside0 (Below w.heap.size w wc))
    case first=>
     have H:=C3.out;clear C3
     by_cases c10:t3<0
     ·rw[if_pos c10]at H;have f12:=decide_eq_true c10;clear c10;(first|rw[f12]|(simp only[i64_w,i32_w];rw[f12])|skip);have H':=Aside0.mk H;clear H;go_wp2
      go_meet
      case rel=>exact⟨_,(((a0.extract 7 a0.size).size:Int)),zr_,H',⟨zz23⟩,⟨(bk_ B0)⟩,⟨zb_⟩⟩
     ·rw[if_neg c10]at H;have f12:=decide_eq_false c10;clear c10;(first|rw[f12]|(simp only[i64_w,i32_w];rw[f12])|skip);have H':=Aside0.mk H;clear H;go_wp2
      go_meet
      case rel=>exact⟨_,(t3),zr_,H',⟨zz23⟩,⟨(bk_ B0)⟩,⟨zb_⟩⟩
    case rest=>
     clear C3;(try clear c6);(try clear c11);(try clear p0);(try clear c0);(try clear f0);(try clear f1);(try clear c7);(try clear c1);(try clear c12);(try clear c2);(try clear c3);(try clear f3);(try clear f4);(try clear c4);(try clear f6);(try clear f7);(try clear c5);(try clear f8);(try clear f9);(try clear c8);(try clear c9);(try clear f10);(try clear f11);(try clear c10);(try clear f12);(try clear h0);(try clear h1);(try clear h2);(try clear h3);(try clear h4);(try clear h5);(try clear h6);(try clear h7);(try clear h8);(try clear h9);(try clear p0);obtain⟨kq,x1,rfl,HA,J1,B0,HB⟩:=hcut
     cases kq with
     |zero=>exact absurd HA.out (by simp[impl_ReadUrl.j1])
     |succ k1=>
      have H:=HA.out;clear HA;simp only[impl_ReadUrl.j1]at H
      replace H:=ifS_ H;obtain⟨c13,H⟩:=H;obtain⟨f13,f14⟩:=dT_ c13;clear c13
      replace H:=ifS_ H;obtain⟨c14,H⟩:=H;obtain⟨f15,f16⟩:=dT_ c14;(try have f17:=f16;simp only[ByteArray.size_extract,Nat.min_self]at f17;have f18:=eq_true (of_decide_eq_true f17));clear c14;replace H:=bS_ H;obtain⟨⟨t4,t5,t6⟩,A4,H⟩:=H;(try dsimp only at H);have f19:=eq_true (of_decide_eq_true za_:0≤x1);have f20:=eq_true (of_decide_eq_true za_:x1≤((a0.extract 7 a0.size).size:Int));replace H:=bS_ H;obtain⟨⟨t7,t8,t9,t10,t11⟩,A5,H⟩:=H;(try dsimp only at H);replace H:=bS_ H;obtain⟨t12,A6,H⟩:=H;(try dsimp only at H);have C4:=Aside0.mk H;clear H;go_upto_if 60 with(first|((with_reducible refine gc_ 88 rfl ?_);refine gR 48 Tryz.func88 (strings_Cut.calls ((a0.extract 7 a0.size).extract 0 (x1:Int).toNat) (⟨#[58]⟩:ByteArray) t4 t5 t6 _ (Gl.below HG.out zb_) A4.out) ?_;rintro w4 hb;replace B0:=Aside0.mk (blk_below (bk_ B0) hb);replace HB:=Aside0.mk (below_step zb_ hb);(try clear hb))|((with_reducible refine gc_ 89 rfl ?_);refine gR 55 Tryz.func89 (impl_readPath.calls ((a0.extract 7 a0.size).extract (x1:Int).toNat (a0.size-7)) t7 t8 t9 t10 t11 _ (Gl.below HG.out zb_) (by have h_:=A5.out;rw[ByteArray.size_extract,Nat.min_self]at h_;exact h_)) ?_;rintro w5 hb;replace B0:=Aside0.mk (blk_below (bk_ B0) hb);replace HB:=Aside0.mk (below_step zb_ hb);(try clear hb))|((with_reducible refine gate_dst (N:=9) rfl ?_);(try(refine gate_guard (by rfl) ?_;dsimp only));refine boxP_ (N:=9) (cs:= #[.string (⟨#[]⟩:ByteArray),.int .i64 0,.string (⟨#[]⟩:ByteArray),.string (⟨#[]⟩:ByteArray),.bool false]) (t:=63) ?_;intro g1 hg w6 hbox hb;have B1:=Aside0.mk (hbox);have G1:=geb_ (w:=w) hg zb_;replace HB:=Aside0.mk (below_step zb_ hb);have N0:=nbL_ (g:=g0) hg (bk_ B0);have N1:=nbG_ (g:=g0) hg (bk_ B0);replace B0:=Aside0.mk (blk_below (bk_ B0) hb);clear hb hbox hg;have n0:=N1.out;have n1:=N0.out;obtain⟨_,_,_,_,_,_,_,_,_,_⟩:=cells5_ B1.out)|((with_reducible refine gc_ 86 rfl ?_);refine gR 57 Tryz.func86 (impl_Fold.calls t4 t12 _ A6.out) ?_;rintro w7 hb;replace B0:=Aside0.mk (blk_below (g:=g0) (o:= .cells #[.string (⟨#[]⟩:ByteArray),.int .i64 0,.string (⟨#[]⟩:ByteArray),.string (⟨#[]⟩:ByteArray),.bool false] 63 (0,0)) (bk_ B0) hb);replace B1:=Aside0.mk (blk_below (g:=g1) (o:= .cells #[.string t7,.int .i64 t8,.string t9,.string t10,.bool t11] 63 (0,0)) (bk_ B1) hb);replace HB:=Aside0.mk (below_step zb_ hb);(try clear hb);obtain⟨_,_,_,_,_,_,_,_,_,_⟩:=cells5_ B1.out))
      (try simp only[Act.put,List.setIfInBounds_toArray,List.set_cons_zero,List.set_cons_succ]);go_cut [] (fun wc=> ∃(kq:Nat) (x2:ByteArray) (x3:Int) (x4 x5:ByteArray) (x6:Bool) (x7:Int),Aside0 (impl_ReadUrl.j2 kq t12 x7 t9 t10 t11=some (r1,r2,r3,r4,r5,r6))∧Aside0 (kq≤k1)∧Aside0 (wc.heap[g0]?=some (.cells #[.string x2,.int .i64 x3,.string x4,.string x5,.bool x6] 63 (0,0)))∧Aside0 (wc.heap[g1]?=some (.cells #[.string t12,.int .i64 x7,.string t9,.string t10,.bool t11] 63 (0,0)))∧Aside0 (Below w.heap.size w wc))
      case first=>
       have H:=C4.out;clear C4
       by_cases c15:t6=true
       ·subst c15;rw[if_pos rfl]at H;replace H:=bS_ H;obtain⟨⟨t13,t14⟩,A7,H⟩:=H;(try dsimp only at H);have C5:=Aside0.mk H;clear H;go_upto_if 67 with(first|((with_reducible refine gc_ 90 rfl ?_);refine gR 63 Tryz.func90 (impl_ReadDec.calls t5 t13 t14 _ (Gl.below HG.out zb_) A7.out) ?_;rintro w8 hb;replace B0:=Aside0.mk (blk_below (g:=g0) (o:= .cells #[.string (⟨#[]⟩:ByteArray),.int .i64 0,.string (⟨#[]⟩:ByteArray),.string (⟨#[]⟩:ByteArray),.bool false] 63 (0,0)) (bk_ B0) hb);replace B1:=Aside0.mk (blk_below (g:=g1) (o:= .cells #[.string t12,.int .i64 80,.string t9,.string t10,.bool t11] 63 (0,0)) (bk_ B1) hb);replace HB:=Aside0.mk (below_step zb_ hb);(try clear hb)))
        (try simp only[Act.put,List.setIfInBounds_toArray,List.set_cons_zero,List.set_cons_succ]);have H:=C5.out;clear C5
        by_cases c16:t14=true
        ·subst c16;rw[if_pos rfl]at H;have H':=Aside0.mk H;clear H;have n2:=N1.out;have n3:=N0.out;obtain⟨_,_,_,_,_,_,_,_,_,_⟩:=cells5_ B1.out;go_wp2
         go_meet
         case rel=>exact⟨_,((⟨#[]⟩:ByteArray)),(0),((⟨#[]⟩:ByteArray)),((⟨#[]⟩:ByteArray)),(false),(t13),H',⟨by have:=J0.out;have:=J1.out;first|omega|exact Nat.le_refl _⟩,⟨(bk_ B0)⟩,⟨by(with_reducible repeat(first|refine blk_drewN ?_ _|refine blk_drew ?_|refine blk_alloc ?_ _));refine blk_put (cs:= #[.string t12,.int .i64 80,.string t9,.string t10,.bool t11]) ?_ 1 _ rfl;(with_reducible repeat(first|refine blk_drewN ?_ _|refine blk_drew ?_|refine blk_alloc ?_ _));exact B1.out⟩,⟨zb_⟩⟩
        ·replace c16:=Bool.eq_false_iff.mpr c16;subst c16;rw[if_neg Bool.false_ne_true]at H;simp only[Option.some.injEq,Prod.mk.injEq]at H;obtain⟨rfl,rfl,rfl,rfl,rfl,rfl⟩:=H;have n4:=N0.out;have n5:=N1.out;obtain⟨_,_,_,_,_,_,_,_,_,_⟩:=cells5_ B0.out;go_wp2
         refine bodyPost_ret (results_ct rfl _ _ g0 63 #[.string (⟨#[]⟩:ByteArray),.int .i64 0,.string (⟨#[]⟩:ByteArray),.string (⟨#[]⟩:ByteArray),.bool false] (0,0) _ rfl (bk_ B0) Tryz.underlying63 rfl zz0) rfl ?_;exact⟨ze_,zb_⟩
       ·replace c15:=Bool.eq_false_iff.mpr c15;subst c15;rw[if_neg Bool.false_ne_true]at H;have H':=Aside0.mk H;clear H;go_wp2
        go_meet
        case rel=>exact⟨_,((⟨#[]⟩:ByteArray)),(0),((⟨#[]⟩:ByteArray)),((⟨#[]⟩:ByteArray)),(false),(80),H',⟨by have:=J0.out;have:=J1.out;first|omega|exact Nat.le_refl _⟩,⟨(bk_ B0)⟩,⟨(bk_ B1)⟩,⟨zb_⟩⟩
      case rest=>
       clear C4;(try clear c6);(try clear c11);(try clear p0);(try clear c17);(try clear c0);(try clear f0);(try clear f1);(try clear c7);(try clear c1);(try clear c12);(try clear c18);(try clear c2);(try clear c3);(try clear f3);(try clear f4);(try clear c4);(try clear f6);(try clear f7);(try clear c5);(try clear f8);(try clear f9);(try clear c8);(try clear c9);(try clear f10);(try clear f11);(try clear c10);(try clear f12);(try clear c13);(try clear f13);(try clear f14);(try clear c14);(try clear f15);(try clear f16);(try clear c19);(try clear f19);(try clear c20);(try clear f20);(try clear c21);(try clear c15);(try clear c16);(try clear c22);(try clear c23);(try clear h0);(try clear h1);(try clear h2);(try clear h3);(try clear h4);(try clear h10);(try clear h11);(try clear h12);(try clear h13);(try clear h14);(try clear h15);(try clear h16);(try clear h17);(try clear h18);(try clear h19);(try clear h20);(try clear h21);(try clear h22);(try clear h23);(try clear h24);(try clear h25);(try clear h26);(try clear h27);(try clear h28);(try clear h29);(try clear h5);(try clear h6);(try clear h7);(try clear h8);(try clear h9);(try clear h30);(try clear h31);(try clear h32);(try clear h33);(try clear h34);(try clear h35);(try clear h36);(try clear h37);(try clear h38);(try clear h39);(try clear h40);(try clear h41);(try clear h42);(try clear h43);(try clear h44);(try clear h45);(try clear h46);(try clear h47);(try clear h48);(try clear h49);(try clear p0);obtain⟨kq,x2,x3,x4,x5,x6,x7,HA,J2,B0,B1,HB⟩:=hcut
       cases kq with
       |zero=>exact absurd HA.out (by simp[impl_ReadUrl.j2])
       |succ k2=>
        have H:=HA.out;clear HA;simp only[impl_ReadUrl.j2]at H;have C6:=Aside0.mk H;clear H;have n6:=N1.out;have n7:=N0.out;obtain⟨_,_,_,_,_,_,_,_,_,_⟩:=cells5_ B1.out;go_upto_if 73 with(fail)
        go_cut [] (fun wc=> ∃(kq:Nat) (x8:ByteArray),Aside0 (impl_ReadUrl.j3 kq t12 x7 x8 t10 t11=some (r1,r2,r3,r4,r5,r6))∧Aside0 (kq≤k2)∧Aside0 (wc.heap[g0]?=some (.cells #[.string x2,.int .i64 x3,.string x4,.string x5,.bool x6] 63 (0,0)))∧Aside0 (wc.heap[g1]?=some (.cells #[.string t12,.int .i64 x7,.string x8,.string t10,.bool t11] 63 (0,0)))∧Aside0 (Below w.heap.size w wc))
        case first=>
         have H:=C6.out;clear C6
         by_cases c24:t9.toList=([]:List UInt8)
         ·rw[if_pos c24]at H;have f21:=beq_iff_eq.mpr c24;have f22:t9.toList.isEmpty=true:=by have hz_:=beq_iff_eq.1 f21;rw[hz_];rfl
          (try rw[f22]);have f23:=bne_eq_false_iff_eq.mpr c24;clear c24;(first|rw[f21]|(simp only[i64_w,i32_w];rw[f21])|rw[f23]|(rw[f24];simp only[Bool.not_true,Bool.not_false])|skip);have H':=Aside0.mk H;clear H;have n8:=N1.out;have n9:=N0.out;obtain⟨_,_,_,_,_,_,_,_,_,_⟩:=cells5_ B1.out;go_wp2
          go_meet
          case rel=>exact⟨_,((⟨#[47]⟩:ByteArray)),H',⟨by have:=J0.out;have:=J1.out;have:=J2.out;first|omega|exact Nat.le_refl _⟩,⟨(bk_ B0)⟩,⟨by(with_reducible repeat(first|refine blk_drewN ?_ _|refine blk_drew ?_|refine blk_alloc ?_ _));refine blk_put (cs:= #[.string t12,.int .i64 x7,.string t9,.string t10,.bool t11]) ?_ 2 _ rfl;(with_reducible repeat(first|refine blk_drewN ?_ _|refine blk_drew ?_|refine blk_alloc ?_ _));exact B1.out⟩,⟨zb_⟩⟩
         ·rw[if_neg c24]at H;have f21:=beq_eq_false_iff_ne.mpr c24;have f22:t9.toList.isEmpty=false:=by cases hz_:t9.toList with|nil=>(rw[hz_]at f21;exact absurd f21 zz2)|cons _ _=>rfl
          (try rw[f22]);have f23:=bne_iff_ne.mpr c24;(first|rw[f21]|(simp only[i64_w,i32_w];rw[f21])|rw[f23]|(rw[f24];simp only[Bool.not_true,Bool.not_false])|skip);have H':=Aside0.mk H;clear H;go_wp2
          go_meet
          case rel=>exact⟨_,(t9),H',⟨by have:=J0.out;have:=J1.out;have:=J2.out;first|omega|exact Nat.le_refl _⟩,⟨(bk_ B0)⟩,⟨by(with_reducible repeat(first|refine blk_drewN ?_ _|refine blk_drew ?_|refine blk_alloc ?_ _));exact B1.out⟩,⟨zb_⟩⟩
        case rest=>
         clear C6;(try clear c6);(try clear c11);(try clear p0);(try clear c17);(try clear c0);(try clear f0);(try clear f1);(try clear c25);(try clear c7);(try clear c1);(try clear c12);(try clear c18);(try clear c2);(try clear c3);(try clear f3);(try clear f4);(try clear c4);(try clear f6);(try clear f7);(try clear c5);(try clear f8);(try clear f9);(try clear c8);(try clear c9);(try clear f10);(try clear f11);(try clear c10);(try clear f12);(try clear c13);(try clear f13);(try clear f14);(try clear c14);(try clear f15);(try clear f16);(try clear c19);(try clear f19);(try clear c20);(try clear f20);(try clear c21);(try clear c15);(try clear c16);(try clear c22);(try clear c23);(try clear c26);(try clear c24);(try clear f21);(try clear f23);(try clear c27);(try clear h0);(try clear h1);(try clear h2);(try clear h3);(try clear h4);(try clear h10);(try clear h11);(try clear h12);(try clear h13);(try clear h14);(try clear h15);(try clear h16);(try clear h17);(try clear h18);(try clear h19);(try clear h20);(try clear h21);(try clear h22);(try clear h23);(try clear h24);(try clear h25);(try clear h26);(try clear h27);(try clear h28);(try clear h29);(try clear h50);(try clear h51);(try clear h52);(try clear h53);(try clear h54);(try clear h55);(try clear h56);(try clear h57);(try clear h58);(try clear h59);(try clear h5);(try clear h6);(try clear h7);(try clear h8);(try clear h9);(try clear h30);(try clear h31);(try clear h32);(try clear h33);(try clear h34);(try clear h35);(try clear h36);(try clear h37);(try clear h38);(try clear h39);(try clear h40);(try clear h41);(try clear h42);(try clear h43);(try clear h44);(try clear h45);(try clear h46);(try clear h47);(try clear h48);(try clear h49);(try clear h60);(try clear h61);(try clear h62);(try clear h63);(try clear h64);(try clear h65);(try clear h66);(try clear h67);(try clear h68);(try clear h69);(try clear p0);obtain⟨kq,x8,HA,J3,B0,B1,HB⟩:=hcut
         cases kq with
         |zero=>exact absurd HA.out (by simp[impl_ReadUrl.j3])
         |succ k3=>
          have H:=HA.out;clear HA;simp only[impl_ReadUrl.j3]at H;replace H:=bS_ H;obtain⟨t15,A8,H⟩:=H;(try dsimp only at H);replace H:=bS_ H;obtain⟨t16,A9,H⟩:=H;(try dsimp only at H);have C7:=Aside0.mk H;clear H;have n10:=N1.out;have n11:=N0.out;obtain⟨_,_,_,_,_,_,_,_,_,_⟩:=cells5_ B1.out;go_upto_if 81 with(first|((with_reducible refine gc_ 91 rfl ?_);refine gR 77 Tryz.func91 (impl_CleanPath.calls k3 x8 t15 _ (Gl.below HG.out zb_) A8.out) ?_;rintro w9 hb;replace B0:=Aside0.mk (blk_below (bk_ B0) hb);replace B1:=Aside0.mk (blk_below (bk_ B1) hb);replace HB:=Aside0.mk (below_step zb_ hb);(try clear hb);obtain⟨_,_,_,_,_,_,_,_,_,_⟩:=cells5_ B1.out)|((with_reducible refine gc_ 92 rfl ?_);refine gR 80 Tryz.func92 (impl_UrlOk.calls k3 t12 x7 t15 t10 t11 t16 _ (Gl.below HG.out zb_) A9.out) ?_;rintro w10 hb;replace B0:=Aside0.mk (blk_below (g:=g0) (o:= .cells #[.string x2,.int .i64 x3,.string x4,.string x5,.bool x6] 63 (0,0)) (bk_ B0) hb);replace B1:=Aside0.mk (blk_below (g:=g1) (o:= .cells #[.string t12,.int .i64 x7,.string t15,.string t10,.bool t11] 63 (0,0)) (bk_ B1) hb);replace HB:=Aside0.mk (below_step zb_ hb);(try clear hb)))
          (try simp only[Act.put,List.setIfInBounds_toArray,List.set_cons_zero,List.set_cons_succ]);have H:=C7.out;clear C7
          by_cases c28:t16=true
          ·subst c28;rw[if_pos rfl]at H;simp only[Option.some.injEq,Prod.mk.injEq]at H;obtain⟨rfl,rfl,rfl,rfl,rfl,rfl⟩:=H;have n12:=N1.out;have n13:=N0.out;obtain⟨_,_,_,_,_,_,_,_,_,_⟩:=cells5_ B1.out;obtain⟨_,_,_,_,_,_,_,_,_,_⟩:=cells5_ B0.out;go_wp2
           refine bodyPost_ret (results_ct rfl _ _ g0 63 #[.string t12,.int .i64 x7,.string t15,.string t10,.bool t11] (0,0) _ rfl (bk_ B0) Tryz.underlying63 rfl zz0) rfl ?_;exact⟨ze_,zb_⟩
          ·replace c28:=Bool.eq_false_iff.mpr c28;subst c28;rw[if_neg Bool.false_ne_true]at H;simp only[Option.some.injEq,Prod.mk.injEq]at H;obtain⟨rfl,rfl,rfl,rfl,rfl,rfl⟩:=H;have n14:=N0.out;have n15:=N1.out;obtain⟨_,_,_,_,_,_,_,_,_,_⟩:=cells5_ B0.out;go_wp2
           refine bodyPost_ret (results_ct rfl _ _ g0 63 #[.string (⟨#[]⟩:ByteArray),.int .i64 0,.string (⟨#[]⟩:ByteArray),.string (⟨#[]⟩:ByteArray),.bool false] (0,0) _ rfl (bk_ B0) Tryz.underlying63 rfl zz0) rfl ?_;exact⟨ze_,zb_⟩
end Go.Proofs.YthmehmehoehlpaaGreatDoor.GFnExactRecText
