-- Printed by gen.py and its programs for this claim.
import Derived.Test.YthmehmehoehlpaaGreatDoorGFnExactRecTextx0
import Derived.Test.YthmehmehoehlpaaGreatDoorGFnExactRecTextx20
import Derived.Test.YthmehmehoehlpaaGreatDoorGFnExactRecTextx23
import Derived.Test.YthmehmehoehlpaaGreatDoorGFnExactRecTextx26
import Derived.Test.YthmehmehoehlpaaGreatDoorZFnExactRecText
namespace Go.Proofs.YthmehmehoehlpaaGreatDoor.GFnExactRecText
open Go.RowKit Go.Proofs.YthmehmehoehlpaaGreatDoorW.PrintWords Go.Proofs.YthmehmehoehlpaaGreatDoorW.PrintLast Go.Proofs.YthmehmehoehlpaaGreatDoorW.PrintMore Go.Proofs.YthmehmehoehlpaaGreatDoorW.Zs
set_option maxHeartbeats 40000000
set_option maxRecDepth 100000
attribute [local go_sem] max2_int min2_int max_two min_two max_three min_three max_four min_four
set_option linter.unusedVariables false
set_option linter.unusedSimpArgs false
def impl_Canon.f (k:Nat) (a0:ByteArray):Option (ByteArray×Bool):=(impl_ReadUrl.f k a0).bind fun b0=>(if b0.2.2.2.2.2=true then((impl_urlText.f b0.1 b0.2.1 b0.2.2.1 b0.2.2.2.1 b0.2.2.2.2.1).bind fun t0=>(some (t0,true)))else(some ((⟨#[]⟩:ByteArray),false)))
theorem impl_Canon.calls (k:Nat) (a0 r1:ByteArray) (r2:Bool) (w:World) (hG:Gl w) (H:impl_Canon.f k a0=some (r1,r2)):
  Calls Tryz.prog 43 #[.string a0] w fun e w'=>e= .returned (.tuple #[.string r1,.bool r2])∧Below w.heap.size w w':=by
 have hu63:=Tryz.underlying63;have HG:=Aside0.mk hG;clear hG;have HB:=Aside0.mk (Below.refl w.heap.size w);unfold impl_Canon.f at H;replace H:=bS_ H;obtain⟨⟨t0,t1,t2,t3,t4,t5⟩,A0,H⟩:=H;(try dsimp only at H);have C0:=Aside0.mk H;clear H;go_enter Tryz.func43,Tryz.ntmps43
 go_upto_if 12 with(first|((with_reducible refine gc_ 61 rfl ?_);refine gR 8 Tryz.func61 (impl_ReadUrl.calls k a0 t0 t1 t2 t3 t4 t5 _ (Gl.below HG.out zb_) A0.out) ?_;rintro w0 hb;replace HB:=Aside0.mk (below_step zb_ hb);(try clear hb))|((with_reducible refine gate_dst (N:=4) rfl ?_);refine boxP_ (N:=4) (cs:= #[.string (⟨#[]⟩:ByteArray),.int .i64 0,.string (⟨#[]⟩:ByteArray),.string (⟨#[]⟩:ByteArray),.bool false]) (t:=63) ?_;intro g0 hg w1 hbox hb;have B0:=Aside0.mk (hbox);have G0:=geb_ (w:=w) hg zb_;replace HB:=Aside0.mk (below_step zb_ hb);clear hb hbox hg;obtain⟨_,_,_,_,_,_,_,_,_,_⟩:=cells5_ B0.out))
 (try simp only[Act.put,List.setIfInBounds_toArray,List.set_cons_zero,List.set_cons_succ]);have H:=C0.out;clear C0
 by_cases c0:t5=true
 ·subst c0;rw[if_pos rfl]at H;replace H:=bS_ H;obtain⟨t6,A1,H⟩:=H;(try dsimp only at H);simp only[Option.some.injEq,Prod.mk.injEq]at H;obtain⟨rfl,rfl⟩:=H;obtain⟨_,_,_,_,_,_,_,_,_,_⟩:=cells5_ B0.out;go_wp2_with (first|((with_reducible refine gc_ 62 rfl ?_);refine gR 14 Tryz.func62 (impl_urlText.calls t0 t1 t2 t3 t4 t6 _ (Gl.below HG.out zb_) A1.out) ?_;rintro w2 hb;replace B0:=Aside0.mk (blk_below (g:=g0) (o:= .cells #[.string t0,.int .i64 t1,.string t2,.string t3,.bool t4] 63 (0,0)) (bk_ B0) hb);replace HB:=Aside0.mk (below_step zb_ hb);(try clear hb)))
  go_ret2
  exact⟨ze_,zb_⟩
 ·replace c0:=Bool.eq_false_iff.mpr c0;subst c0;rw[if_neg Bool.false_ne_true]at H;simp only[Option.some.injEq,Prod.mk.injEq]at H;obtain⟨rfl,rfl⟩:=H;go_wp2
  go_ret2
  exact⟨ze_,zb_⟩
def impl_isCanonical.f (k:Nat) (a0:ByteArray):Option (Bool):=(impl_Canon.f k a0).bind fun b0=>(if b0.2=true then(some (b0.1.toList==a0.toList))else(some false))
theorem impl_isCanonical.calls (k:Nat) (a0:ByteArray) (r:Bool) (w:World) (hG:Gl w) (H:impl_isCanonical.f k a0=some r):
  Calls Tryz.prog 24 #[.string a0] w fun e w'=>e= .returned (.bool r)∧Below w.heap.size w w':=by
 have HG:=Aside0.mk hG;clear hG;have HB:=Aside0.mk (Below.refl w.heap.size w);unfold impl_isCanonical.f at H;replace H:=bS_ H;obtain⟨⟨t0,t1⟩,A0,H⟩:=H;(try dsimp only at H);have C0:=Aside0.mk H;clear H;go_enter Tryz.func24,Tryz.ntmps24
 repeat' (first|(go_big_may;(first|((with_reducible refine gc_ 43 rfl ?_);refine gR 7 Tryz.func43 (impl_Canon.calls k a0 t0 t1 _ (Gl.below HG.out zb_) A0.out) ?_;rintro w0 hb;replace HB:=Aside0.mk (below_step zb_ hb);(try clear hb))))|go_values|go_skip|go_big_skip|go_big_want|((first|(with_reducible refine gate_nog rfl ?_)|(fail_if_success with_reducible refine gate_any ?_));go_step)|go_upon|simp only[Bool.not_true,Bool.not_false,Bool.true_and,Bool.false_and,Bool.true_or,Bool.false_or]|dsimp only)
 (try simp only[Act.put,List.setIfInBounds_toArray,List.set_cons_zero,List.set_cons_succ]);have H:=C0.out;clear C0
 by_cases c0:t1=true
 ·subst c0;rw[if_pos rfl]at H;obtain rfl:=Option.some.inj H;go_wp2
  go_ret;exact⟨ze_,zb_⟩
 ·replace c0:=Bool.eq_false_iff.mpr c0;subst c0;rw[if_neg Bool.false_ne_true]at H;obtain rfl:=Option.some.inj H;go_wp2
  go_ret;exact⟨ze_,zb_⟩
def impl_divided.f (a0:ByteArray):Option (ByteArray×ByteArray×Bool):=(strings_Index.f a0 (⟨#[13,10,13,10]⟩:ByteArray)).bind fun t0=>(if t0<0 then(some ((⟨#[]⟩:ByteArray),(⟨#[]⟩:ByteArray),false))else(if 0≤(wrap64 (t0+4))then(if(wrap64 (t0+4))≤(a0.size:Int)then(some (a0.extract 0 ((wrap64 (t0+4)):Int).toNat,a0.extract ((wrap64 (t0+4)):Int).toNat a0.size,true))else(none))else(none)))
theorem impl_divided.calls (a0 r1 r2:ByteArray) (r3:Bool) (w:World) (hG:Gl w) (H:impl_divided.f a0=some (r1,r2,r3)):
  Calls Tryz.prog 25 #[.string a0] w fun e w'=>e= .returned (.tuple #[.string r1,.string r2,.bool r3])∧Below w.heap.size w w':=by
 have HG:=Aside0.mk hG;clear hG;have HB:=Aside0.mk (Below.refl w.heap.size w);unfold impl_divided.f at H;replace H:=bS_ H;obtain⟨t0,A0,H⟩:=H;(try dsimp only at H)
 by_cases c0:t0<0
 ·rw[if_pos c0]at H;have f0:=decide_eq_true c0;clear c0;simp only[Option.some.injEq,Prod.mk.injEq]at H;obtain⟨rfl,rfl,rfl⟩:=H;go_enter Tryz.func25,Tryz.ntmps25
  go_wp2_with (first|(go_at_call 44;(with_reducible refine(strings_Index.calls a0 (⟨#[13,10,13,10]⟩:ByteArray) t0 _ (Gl.below HG.out zb_) A0.out).mono ?_);rintro e w0 ⟨rfl,hb⟩;have n0_:=Aside0.mk (below_step zb_ hb);clear HB;have HB:=n0_;clear n0_;(try clear hb)))
  repeat(go_quiet (first|(go_at_call 44;(with_reducible refine(strings_Index.calls a0 (⟨#[13,10,13,10]⟩:ByteArray) t0 _ (Gl.below HG.out zb_) A0.out).mono ?_);rintro e w0 ⟨rfl,hb⟩;have n0_:=Aside0.mk (below_step zb_ hb);clear HB;have HB:=n0_;clear n0_;(try clear hb)));try go_wp2_with (first|(go_at_call 44;(with_reducible refine(strings_Index.calls a0 (⟨#[13,10,13,10]⟩:ByteArray) t0 _ (Gl.below HG.out zb_) A0.out).mono ?_);rintro e w0 ⟨rfl,hb⟩;have n0_:=Aside0.mk (below_step zb_ hb);clear HB;have HB:=n0_;clear n0_;(try clear hb))))
  go_ret3
  exact⟨ze_,zb_⟩
 ·rw[if_neg c0]at H;have f0:=decide_eq_false c0;clear c0;generalize h0:(wrap64 (t0+4))=j0 at H
  (try rw[h0]at A0);have h1:(IntKind.i64.wrap (t0+4))=j0:=(i64_w _).trans h0
  replace H:=ifS_ H;obtain⟨c1,H⟩:=H;obtain⟨f1,f2⟩:=dT_ c1;clear c1
  replace H:=ifS_ H;obtain⟨c2,H⟩:=H;obtain⟨f3,f4⟩:=dT_ c2;clear c2;have f5:=eq_true (of_decide_eq_true za_:0≤(j0));have f6:=eq_true (of_decide_eq_true za_:(j0)≤(a0.size:Int));simp only[Option.some.injEq,Prod.mk.injEq]at H;obtain⟨rfl,rfl,rfl⟩:=H;go_enter Tryz.func25,Tryz.ntmps25
  go_wp2_with (first|(go_at_call 44;(with_reducible refine(strings_Index.calls a0 (⟨#[13,10,13,10]⟩:ByteArray) t0 _ (Gl.below HG.out zb_) A0.out).mono ?_);rintro e w1 ⟨rfl,hb⟩;have n0_:=Aside0.mk (below_step zb_ hb);clear HB;have HB:=n0_;clear n0_;(try clear hb)))
  repeat(go_quiet (first|(go_at_call 44;(with_reducible refine(strings_Index.calls a0 (⟨#[13,10,13,10]⟩:ByteArray) t0 _ (Gl.below HG.out zb_) A0.out).mono ?_);rintro e w1 ⟨rfl,hb⟩;have n0_:=Aside0.mk (below_step zb_ hb);clear HB;have HB:=n0_;clear n0_;(try clear hb)));try go_wp2_with (first|(go_at_call 44;(with_reducible refine(strings_Index.calls a0 (⟨#[13,10,13,10]⟩:ByteArray) t0 _ (Gl.below HG.out zb_) A0.out).mono ?_);rintro e w1 ⟨rfl,hb⟩;have n0_:=Aside0.mk (below_step zb_ hb);clear HB;have HB:=n0_;clear n0_;(try clear hb))))
  go_ret3
  exact⟨by first|rfl|(simp[errW_none,errW_some]<;>rfl)|(simp only[←h0];first|rfl|(simp[errW_none,errW_some]<;>rfl))|(simp[*,errW_none,errW_some]<;>rfl),zb_⟩
mutual
def impl_base32.l0:Nat→ByteArray→List Int→Int→Int→Int→Option (ByteArray)
 |0,_,_,_,_,_=>none
 |k+1,x0,x1,x2,x3,x4=>if x4<(x0.size:Int)then(if 0≤x4 then(impl_base32.l1 k x0 x1 (Go.bits .or .i64 (wrap64 (x2*256)) (wrap64 (bt x0 x4))) (wrap64 (x3+8)) x4)else(none))else(if x3>0 then(if 0≤(wrap64 (5-x3))then(if 0≤(Go.bits .and .i64 (shl .i64 x2 (wrap64 (5-x3))) 31)then(if(Go.bits .and .i64 (shl .i64 x2 (wrap64 (5-x3))) 31)<32 then(if x1.length<140737488355328 then(some (strOfNums (x1++ [bt (⟨#[65,66,67,68,69,70,71,72,73,74,75,76,77,78,79,80,81,82,83,84,85,86,87,88,89,90,50,51,52,53,54,55]⟩:ByteArray) (Go.bits .and .i64 (shl .i64 x2 (wrap64 (5-x3))) 31)])))else(none))else(none))else(none))else(none))else(some (strOfNums x1)))
def impl_base32.l1:Nat→ByteArray→List Int→Int→Int→Int→Option (ByteArray)
 |0,_,_,_,_,_=>none
 |k+1,x0,x1,x2,x3,x4=>if x3≥5 then(if 0≤(wrap64 (x3-5))then(if 0≤(Go.bits .and .i64 (shr .i64 x2 (wrap64 (x3-5))) 31)then(if(Go.bits .and .i64 (shr .i64 x2 (wrap64 (x3-5))) 31)<32 then(if x1.length<140737488355328 then(impl_base32.l1 k x0 (x1++ [bt (⟨#[65,66,67,68,69,70,71,72,73,74,75,76,77,78,79,80,81,82,83,84,85,86,87,88,89,90,50,51,52,53,54,55]⟩:ByteArray) (Go.bits .and .i64 (shr .i64 x2 (wrap64 (x3-5))) 31)]) x2 (wrap64 (x3-5)) x4)else(none))else(none))else(none))else(none))else(impl_base32.l0 k x0 x1 (Go.bits .and .i64 x2 31) x3 (wrap64 (x4+1)))
end
def impl_base32.f (k:Nat) (a0:ByteArray):Option (ByteArray):=impl_base32.l0 k a0 ([]:List Int) 0 0 0
theorem impl_base32.calls (k:Nat) (a0 r:ByteArray) (w:World) (H:impl_base32.f k a0=some r):
  Calls Tryz.prog 45 #[.string a0] w fun e w'=>e= .returned (.string r)∧Below w.heap.size w w':=by
 have HB:=Aside0.mk (Below.refl w.heap.size w);unfold impl_base32.f at H;have H':=Aside0.mk H;clear H;go_enter Tryz.func45,Tryz.ntmps45
 go_wp2
 go_loopg [3,4,5,6] k (fun kq v0 v1 v2 v3 w'=> ∃(x0:List Int) (x1 x2 x3:Int),v1= .int .i64 x1∧v2= .int .i64 x2∧v3= .int .i64 x3∧Aside0 (impl_base32.l0 kq a0 x0 x1 x2 x3=some r)∧Aside0 (kq≤k)∧Aside0 (Kd.R (Kd.int .u8) 5 w' w.heap.size (fun _=>True) v0 x0)∧Aside0 (Below w.heap.size w w'))
 case atStart=>exact⟨(([]:List Int)),(0),(0),(0),zr_,zr_,zr_,H',⟨Nat.le_refl _⟩,⟨zn_⟩,⟨zb_⟩⟩
 case round=>
  clear H';obtain⟨x0,x1,x2,x3,rfl,rfl,rfl,HA,K0,O0,HB⟩:=hrel
  cases gk with
  |zero=>exact absurd HA.out (by simp[impl_base32.l0])
  |succ k0=>
   have H:=HA.out;clear HA;simp only[impl_base32.l0]at H
   by_cases c0:x3<(a0.size:Int)
   ·rw[if_pos c0]at H;have f0:=decide_eq_true c0;clear c0
    replace H:=ifS_ H;obtain⟨c1,H⟩:=H;have f1:=decide_eq_true c1;clear c1;have H':=Aside0.mk H;clear H;have p0:0≤(x3:Int):=of_decide_eq_true za_;have q0:x3<(a0.size:Int):=of_decide_eq_true za_;have h0:=bt_at a0 x3;replace p0:=eq_true p0;replace q0:=eq_true q0;go_wp2
    go_loopg [3,5] k0 (fun kq v0 v2 w'=> ∃(x4:List Int) (x5:Int),v2= .int .i64 x5∧Aside0 (impl_base32.l1 kq a0 x4 (Go.bits .or .i64 (wrap64 (x1*256)) (wrap64 (bt a0 x3))) x5 x3=some r)∧Aside0 (kq≤k0)∧Aside0 (Kd.R (Kd.int .u8) 5 w' w.heap.size (fun _=>True) v0 x4)∧Aside0 (Below w.heap.size w w'))
    case atStart=>exact⟨(x0),(wrap64 (x2+8)),zr_,H',⟨Nat.le_refl _⟩,⟨(kr_ O0)⟩,⟨zb_⟩⟩
    case round=>
     clear H';(try clear c0);(try clear f0);(try clear p1);(try clear c1);(try clear f1);(try clear c2);(try clear p0);(try clear q0);(try clear h0);(try clear p0);(try clear q0);obtain⟨x4,x5,rfl,HA,K1,O0,HB⟩:=hrel
     cases gk with
     |zero=>exact absurd HA.out (by simp[impl_base32.l1])
     |succ k1=>
      have H:=HA.out;clear HA;simp only[impl_base32.l1]at H
      by_cases c3:x5≥5
      ·rw[if_pos c3]at H;have f2:=decide_eq_true c3;clear c3;generalize h1:(wrap64 (x5-5))=j0 at H
       have h2:(IntKind.i64.wrap (x5-5))=j0:=(i64_w _).trans h1
       replace H:=ifS_ H;obtain⟨c4,H⟩:=H;obtain⟨f3,f4⟩:=dT_ c4;clear c4;generalize h3:(shr .i64 (Go.bits .or .i64 (wrap64 (x1*256)) (wrap64 (bt a0 x3))) (j0))=j1 at H
       have h4:((Go.bits .or .i64 (wrap64 (x1*256)) (wrap64 (bt a0 x3)))/2^min (j0).toNat 64)=j1:=h3;have h5:(j0)≤64→((Go.bits .or .i64 (wrap64 (x1*256)) (wrap64 (bt a0 x3)))/2^(j0).toNat)=j1:=shr_small h3
       replace H:=ifS_ H;obtain⟨c5,H⟩:=H;have f5:=decide_eq_true c5;clear c5
       replace H:=ifS_ H;obtain⟨c6,H⟩:=H;have f6:=decide_eq_true c6;clear c6
       replace H:=ifS_ H;obtain⟨c7,H⟩:=H;have L0:=Aside0.mk c7;clear c7;generalize h6:(x4++ [bt (⟨#[65,66,67,68,69,70,71,72,73,74,75,76,77,78,79,80,81,82,83,84,85,86,87,88,89,90,50,51,52,53,54,55]⟩:ByteArray) (Go.bits .and .i64 (j1) 31)]:List Int)=y0 at H;have Y0:=Aside0.mk h6.symm;clear h6;have H':=Aside0.mk H;clear H;have p2:0≤((Go.bits .and .i64 (j1) 31):Int):=of_decide_eq_true za_;have q1:(Go.bits .and .i64 (j1) 31)<(32:Int):=of_decide_eq_true za_;have h7:=bt_at (⟨#[65,66,67,68,69,70,71,72,73,74,75,76,77,78,79,80,81,82,83,84,85,86,87,88,89,90,50,51,52,53,54,55]⟩:ByteArray) (Go.bits .and .i64 (j1) 31);replace p2:=eq_true p2;replace q1:=eq_true q1;go_wp2_with (first|((with_reducible refine gate_builtin (b:= .append) (xs:= #[.tmp 26,.tmp 33]) rfl ?_);at_builtin;refine Kd.R_append (Kd.int .u8) (w0:=w) w.heap.size rfl (.tmp 26) (.tmp 33) 40 5 (.int .u8 0) 1 rfl Tryz.underlying40 info5 rfl zz2 zz5 u3 x4 (bt (⟨#[65,66,67,68,69,70,71,72,73,74,75,76,77,78,79,80,81,82,83,84,85,86,87,88,89,90,50,51,52,53,54,55]⟩:ByteArray) (Go.bits .and .i64 (j1) 31)) [.int .u8 (bt (⟨#[65,66,67,68,69,70,71,72,73,74,75,76,77,78,79,80,81,82,83,84,85,86,87,88,89,90,50,51,52,53,54,55]⟩:ByteArray) (Go.bits .and .i64 (j1) 31))] (fun _=>True) (fun _=>False) rfl rfl ?aP (fun _ hk=>hk.elim) ?aF ?aO ?aB ?aS ?aL ?_;(case aP=>exact rfl);(case aB=>exact zb_);(case aF=>exact(fun _ _=>trivial));(case aO=>exact (kr_ O0));(case aS=>exact(below_size zb_));(case aL=>have:=L0.out;omega);intro v4 w1 ho hb hg hat;rw[←Y0.out]at ho;replace HB:=Aside0.mk (hb);have O1:=Aside0.mk (ho);clear O0;clear ho hb hg hat))
       go_roundg k1
       (case measure=>have:=K0.out;have:=K1.out;omega);case rel=>exact⟨(y0),(j0),(by first|rfl|(simp;done)|(simp only[←h1]<;>(first|rfl|simp))|(simp[*];done)),H',⟨zz8⟩,⟨by(with_reducible repeat(first|apply Kd.R_alloc|apply Kd.R_drewN|apply Kd.R_drew));exact O1.out⟩,⟨zb_⟩⟩
      ·rw[if_neg c3]at H;have f2:=decide_eq_false c3;clear c3;have H':=Aside0.mk H;clear H;go_wp2
       go_roundg k1
       (case measure=>have:=K0.out;have:=K1.out;omega);case rel=>exact⟨(x4),(Go.bits .and .i64 (Go.bits .or .i64 (wrap64 (x1*256)) (wrap64 (bt a0 x3))) 31),(x5),(wrap64 (x3+1)),zr_,zr_,zr_,H',⟨zz8⟩,⟨(kr_ O0)⟩,⟨zb_⟩⟩
   ·rw[if_neg c0]at H;have f0:=decide_eq_false c0;clear c0
    by_cases c8:x2>0
    ·rw[if_pos c8]at H;have f7:=decide_eq_true c8;clear c8;generalize h8:(wrap64 (5-x2))=j2 at H
     have h9:(IntKind.i64.wrap (5-x2))=j2:=(i64_w _).trans h8
     replace H:=ifS_ H;obtain⟨c9,H⟩:=H;obtain⟨f8,f9⟩:=dT_ c9;clear c9;generalize h10:(shl .i64 x1 (j2))=j3 at H
     have h11:(IntKind.i64.wrap (x1*2^min (j2).toNat 64))=j3:=h10;have h12:(j2)≤64→(IntKind.i64.wrap (x1*2^(j2).toNat))=j3:=shl_small h10;have h13:(wrap64 (x1*2^min (j2).toNat 64))=j3:=(i64_w _).symm.trans h11;have h14:(j2)≤64→(wrap64 (x1*2^(j2).toNat))=j3:=fun h_=>(i64_w _).symm.trans (h12 h_)
     replace H:=ifS_ H;obtain⟨c10,H⟩:=H;have f10:=decide_eq_true c10;clear c10
     replace H:=ifS_ H;obtain⟨c11,H⟩:=H;have f11:=decide_eq_true c11;clear c11
     replace H:=ifS_ H;obtain⟨c12,H⟩:=H;have L1:=Aside0.mk c12;clear c12;generalize h15:(x0++ [bt (⟨#[65,66,67,68,69,70,71,72,73,74,75,76,77,78,79,80,81,82,83,84,85,86,87,88,89,90,50,51,52,53,54,55]⟩:ByteArray) (Go.bits .and .i64 (j3) 31)]:List Int)=y1 at H;have Y1:=Aside0.mk h15.symm;clear h15;obtain rfl:=Option.some.inj H;have p3:0≤((Go.bits .and .i64 (j3) 31):Int):=of_decide_eq_true za_;have q2:(Go.bits .and .i64 (j3) 31)<(32:Int):=of_decide_eq_true za_;have h16:=bt_at (⟨#[65,66,67,68,69,70,71,72,73,74,75,76,77,78,79,80,81,82,83,84,85,86,87,88,89,90,50,51,52,53,54,55]⟩:ByteArray) (Go.bits .and .i64 (j3) 31);replace p3:=eq_true p3;replace q2:=eq_true q2;go_wp2_with (first|((with_reducible refine gate_builtin (b:= .append) (xs:= #[.tmp 39,.tmp 46]) rfl ?_);at_builtin;refine Kd.R_append (Kd.int .u8) (w0:=w) w.heap.size rfl (.tmp 39) (.tmp 46) 40 5 (.int .u8 0) 1 rfl Tryz.underlying40 info5 rfl zz2 zz5 u3 x0 (bt (⟨#[65,66,67,68,69,70,71,72,73,74,75,76,77,78,79,80,81,82,83,84,85,86,87,88,89,90,50,51,52,53,54,55]⟩:ByteArray) (Go.bits .and .i64 (j3) 31)) [.int .u8 (bt (⟨#[65,66,67,68,69,70,71,72,73,74,75,76,77,78,79,80,81,82,83,84,85,86,87,88,89,90,50,51,52,53,54,55]⟩:ByteArray) (Go.bits .and .i64 (j3) 31))] (fun _=>True) (fun _=>False) rfl rfl ?aP (fun _ hk=>hk.elim) ?aF ?aO ?aB ?aS ?aL ?_;(case aP=>exact rfl);(case aB=>exact zb_);(case aF=>exact(fun _ _=>trivial));(case aO=>exact (kr_ O0));(case aS=>exact(below_size zb_));(case aL=>have:=L1.out;omega);intro v5 w2 ho hb hg hat;rw[←Y1.out]at ho;replace HB:=Aside0.mk (hb);have O2:=Aside0.mk (ho);clear O0;clear ho hb hg hat;have hcv23:=own_string (P:=Tryz.prog) Tryz.underlying40 Tryz.underlying5 Tryz.underlying9 (Kd.own_of_R O2.out)))
     go_ret;exact⟨by first|rfl|(simp[errW_none,errW_some]<;>rfl)|(simp only[←h8,←h10];first|rfl|(simp[errW_none,errW_some]<;>rfl))|(simp[*,errW_none,errW_some]<;>rfl),zb_⟩
    ·rw[if_neg c8]at H;have f7:=decide_eq_false c8;clear c8;obtain rfl:=Option.some.inj H;have hcv24:=own_string (P:=Tryz.prog) Tryz.underlying40 Tryz.underlying5 Tryz.underlying9 (Kd.own_of_R O0.out);go_wp2
     go_ret;exact⟨ze_,zb_⟩
def impl_areWords.l0:Nat→List Int→Int→Int→Option (Bool)
 |0,_,_,_=>none
 |k+1,x0,x1,x2=>if x2<x1 then(if 0≤x2 then(if x2<(x0.length:Int)then((impl_within.f (rd x0 x2) 0 4294967295).bind fun t0=>(if t0=true then(impl_areWords.l0 k x0 x1 (wrap64 (x2+1)))else(some false)))else(none))else(none))else(some true)
def impl_areWords.f (k:Nat) (l0:List Int) (a0:Int):Option (Bool):=if(l0.length:Int)=a0 then(impl_areWords.l0 k l0 (l0.length:Int) 0)else(some false)
theorem impl_areWords.calls (k:Nat) (A0:Option Addr) (c0:Nat) (l0:List Int) (a0:Int) (r:Bool) (w:World) (h0:Kd.C (Kd.int .i64) w A0 l0.length l0) (hc0:l0.length≤c0) (H:impl_areWords.f k l0 a0=some r):
  Calls Tryz.prog 137 #[.slice A0 l0.length c0,.int .i64 a0] w fun e w'=>e= .returned (.bool r)∧Drawn0 w w':=by
 have HR0:=Aside0.mk h0;have C0:=Aside0.mk hc0;clear h0 hc0;unfold impl_areWords.f at H
 by_cases c1:(l0.length:Int)=a0
 ·rw[if_pos c1]at H;obtain⟨f0,f1⟩:=bqT_ c1;clear c1;have H':=Aside0.mk H;clear H;go_enter Tryz.func137,Tryz.ntmps137
  go_wp2
  go_loopg [13] k (fun kq v0 w'=> ∃(x0:Int),v0= .int .i64 x0∧Aside0 (impl_areWords.l0 kq l0 (l0.length:Int) x0=some r)∧Aside0 (kq≤k)∧Drawn0 w w')
  case atStart=>exact⟨(0),zr_,H',⟨Nat.le_refl _⟩,zd_⟩
  case round=>
   clear H';(try clear c2);(try clear p0);(try clear c1);(try clear f0);(try clear f1);obtain⟨x0,rfl,HA,K0,⟨m1,rfl⟩⟩:=hrel
   cases gk with
   |zero=>exact absurd HA.out (by simp[impl_areWords.l0])
   |succ k0=>
    have H:=HA.out;clear HA;simp only[impl_areWords.l0]at H
    by_cases c3:x0<(l0.length:Int)
    ·rw[if_pos c3]at H;have f2:=decide_eq_true c3;clear c3
     replace H:=ifS_ H;obtain⟨c4,H⟩:=H;have f3:=decide_eq_true c4;clear c4
     replace H:=ifS_ H;obtain⟨c5,H⟩:=H;have f4:=decide_eq_true c5;clear c5;replace H:=bS_ H;obtain⟨t0,A1,H⟩:=H;(try dsimp only at H);have C1:=Aside0.mk H;clear H;have p1:0≤(x0:Int):=of_decide_eq_true za_;have q0:x0<(l0.length:Int):=of_decide_eq_true za_;obtain⟨d0,e0,h1⟩:=Kd.at_int HR0.out x0 p1 q0;cases e0;replace p1:=eq_true p1;replace q0:=eq_true q0;go_upto_if 19 with(first|((with_reducible refine gc_ 21 rfl ?_);refine gR 18 Tryz.func21 (impl_within.calls (rd l0 x0) 0 4294967295 t0 _ A1.out) ?_;rintro w' ⟨nd,rfl⟩))
     (try simp only[Act.put,List.setIfInBounds_toArray,List.set_cons_zero,List.set_cons_succ]);have H:=C1.out;clear C1
     by_cases c6:t0=true
     ·subst c6;rw[if_pos rfl]at H;have H':=Aside0.mk H;clear H;go_wp2
      go_roundg k0
      (case measure=>have:=K0.out;omega);case rel=>exact⟨(wrap64 (x0+1)),zr_,H',⟨zz4⟩,zd_⟩
     ·replace c6:=Bool.eq_false_iff.mpr c6;subst c6;rw[if_neg Bool.false_ne_true]at H;obtain rfl:=Option.some.inj H;go_wp2
      go_ret;exact⟨zr_,zd_⟩
    ·rw[if_neg c3]at H;have f2:=decide_eq_false c3;clear c3;obtain rfl:=Option.some.inj H;go_wp2
     go_ret;exact⟨zr_,zd_⟩
 ·rw[if_neg c1]at H;obtain⟨f0,f1⟩:=bqF_ c1;obtain rfl:=Option.some.inj H;go_enter Tryz.func137,Tryz.ntmps137
  go_wp2
  go_ret;exact⟨zr_,zd_⟩
def impl_ShaOk.f (k:Nat) (l0:List Int) (a0:ByteArray) (a1:Int):Option (Bool):=(impl_areWords.f k l0 5).bind fun t0=>(if t0=true then((impl_within.f a1 0 999999999999999).bind fun t1=>(if t1=true then(some ((a0.size:Int)==(Int.tmod a1 64)))else(some false)))else(some false))
theorem impl_ShaOk.calls (k:Nat) (A0:Option Addr) (c0:Nat) (l0:List Int) (a0:ByteArray) (a1:Int) (r:Bool) (w:World) (h0:Kd.C (Kd.int .i64) w A0 l0.length l0) (hc0_0:l0.length≤c0) (H:impl_ShaOk.f k l0 a0 a1=some r):
  Calls Tryz.prog 99 #[.agg #[.slice A0 l0.length c0,.string a0,.int .i64 a1]] w fun e w'=>e= .returned (.bool r)∧Below w.heap.size w w':=by
 have hu71:=Tryz.underlying71;have HR0_0:=Aside0.mk h0;have C0:=Aside0.mk hc0_0;clear h0 hc0_0;have HB:=Aside0.mk (Below.refl w.heap.size w);unfold impl_ShaOk.f at H;replace H:=bS_ H;obtain⟨t0,A1,H⟩:=H;(try dsimp only at H);have C1:=Aside0.mk H;clear H;go_enter Tryz.func99,Tryz.ntmps99
 repeat' (first|(go_big_may;(first|((with_reducible refine gate_dst (N:=1) rfl ?_);(try(refine gate_guard (by rfl) ?_;dsimp only));refine boxP_ (N:=1) (cs:= #[.slice A0 l0.length c0,.string a0,.int .i64 a1]) (t:=71) ?_;intro g0 hg w0 hbox hb;have B0:=Aside0.mk (hbox);have G0:=geb_ (w:=w) hg zb_;replace HB:=Aside0.mk (below_step zb_ hb);clear hb hbox hg;obtain⟨_,_,_,_,_,_⟩:=cells3_ B0.out)|((with_reducible refine gc_ 137 rfl ?_);refine gR 5 Tryz.func137 (impl_areWords.calls k _ _ l0 5 t0 _ zz9 C0.out A1.out) ?_;rintro w' ⟨nd,rfl⟩)))|go_values|go_skip|go_big_skip|go_big_want|((first|(with_reducible refine gate_nog rfl ?_)|(fail_if_success with_reducible refine gate_any ?_));go_step)|go_upon|simp only[Bool.not_true,Bool.not_false,Bool.true_and,Bool.false_and,Bool.true_or,Bool.false_or]|dsimp only)
 (try simp only[Act.put,List.setIfInBounds_toArray,List.set_cons_zero,List.set_cons_succ]);(try(rw[drewN_self w0];generalize hq_:World.drewN w0 _=w0;replace B0:=dnB_ hq_ B0;replace HB:=dnH_ hq_ HB;clear hq_;obtain⟨_,_,_,_,_,_⟩:=cells3_ B0.out));have H:=C1.out;clear C1
 by_cases c1:t0=true
 ·subst c1;rw[if_pos rfl]at H;replace H:=bS_ H;obtain⟨t1,A2,H⟩:=H;(try dsimp only at H);have C2:=Aside0.mk H;clear H;obtain⟨_,_,_,_,_,_⟩:=cells3_ B0.out
  repeat' (first|(go_big_may;(first|(go_at_call 21;(with_reducible refine(impl_within.calls a1 0 999999999999999 t1 _ A2.out).mono ?_);rintro e w' ⟨rfl,⟨nd,rfl⟩⟩)))|go_values|go_skip|go_big_skip|go_big_want|((first|(with_reducible refine gate_nog rfl ?_)|(fail_if_success with_reducible refine gate_any ?_));go_step)|go_upon|simp only[Bool.not_true,Bool.not_false,Bool.true_and,Bool.false_and,Bool.true_or,Bool.false_or]|dsimp only)
  (try simp only[Act.put,List.setIfInBounds_toArray,List.set_cons_zero,List.set_cons_succ]);(try(rw[drewN_self w0];generalize hq_:World.drewN w0 _=w0;replace B0:=dnB_ hq_ B0;replace HB:=dnH_ hq_ HB;clear hq_;obtain⟨_,_,_,_,_,_⟩:=cells3_ B0.out));have H:=C2.out;clear C2
  by_cases c2:t1=true
  ·subst c2;rw[if_pos rfl]at H;obtain rfl:=Option.some.inj H;obtain⟨_,_,_,_,_,_⟩:=cells3_ B0.out;go_wp2
   go_ret;exact⟨ze_,zb_⟩
  ·replace c2:=Bool.eq_false_iff.mpr c2;subst c2;rw[if_neg Bool.false_ne_true]at H;obtain rfl:=Option.some.inj H;go_wp2
   go_ret;exact⟨ze_,zb_⟩
 ·replace c1:=Bool.eq_false_iff.mpr c1;subst c1;rw[if_neg Bool.false_ne_true]at H;obtain rfl:=Option.some.inj H;go_wp2
  go_ret;exact⟨ze_,zb_⟩
def impl_bigEndian.l0:Nat→Int→List Int→Int→Option (ByteArray)
 |0,_,_,_=>none
 |k+1,x0,x1,x2=>if x2≥0 then(if 0≤x2 then(if x1.length<140737488355328 then(impl_bigEndian.l0 k x0 (x1++ [(shr .i64 x0 x2)%256]) (wrap64 (x2-8)))else(none))else(none))else(some (strOfNums x1))
def impl_bigEndian.f (k:Nat) (a0 a1:Int):Option (ByteArray):=impl_bigEndian.l0 k a0 ([]:List Int) (wrap64 (8*(wrap64 (a1-1))))
theorem impl_bigEndian.calls (k:Nat) (a0 a1:Int) (r:ByteArray) (w:World) (H:impl_bigEndian.f k a0 a1=some r):
  Calls Tryz.prog 100 #[.int .i64 a0,.int .i64 a1] w fun e w'=>e= .returned (.string r)∧Below w.heap.size w w':=by
 have HB:=Aside0.mk (Below.refl w.heap.size w);unfold impl_bigEndian.f at H;have H':=Aside0.mk H;clear H;go_enter Tryz.func100,Tryz.ntmps100
 go_wp2
 go_loopg [5,6] k (fun kq v0 v1 w'=> ∃(x0:List Int) (x1:Int),v1= .int .i64 x1∧Aside0 (impl_bigEndian.l0 kq a0 x0 x1=some r)∧Aside0 (kq≤k)∧Aside0 (Kd.R (Kd.int .u8) 5 w' w.heap.size (fun _=>True) v0 x0)∧Aside0 (Below w.heap.size w w'))
 case atStart=>exact⟨(([]:List Int)),(wrap64 (8*(wrap64 (a1-1)))),zr_,H',⟨Nat.le_refl _⟩,⟨zn_⟩,⟨zb_⟩⟩
 case round=>
  clear H';(try clear c0);(try clear p0);obtain⟨x0,x1,rfl,HA,K0,O0,HB⟩:=hrel
  cases gk with
  |zero=>exact absurd HA.out (by simp[impl_bigEndian.l0])
  |succ k0=>
   have H:=HA.out;clear HA;simp only[impl_bigEndian.l0]at H
   by_cases c1:x1≥0
   ·rw[if_pos c1]at H;have f0:=decide_eq_true c1;clear c1
    replace H:=ifS_ H;obtain⟨c2,H⟩:=H;obtain⟨f1,f2⟩:=dT_ c2;clear c2;generalize h0:(shr .i64 a0 x1)=j0 at H
    have h1:(a0/2^min x1.toNat 64)=j0:=h0;have h2:x1≤64→(a0/2^x1.toNat)=j0:=shr_small h0
    replace H:=ifS_ H;obtain⟨c3,H⟩:=H;have L0:=Aside0.mk c3;clear c3;generalize h3:(x0++ [(j0)%256]:List Int)=y0 at H;have Y0:=Aside0.mk h3.symm;clear h3;have H':=Aside0.mk H;clear H;go_wp2_with (first|((with_reducible refine gate_builtin (b:= .append) (xs:= #[.tmp 14,.tmp 19]) rfl ?_);at_builtin;refine Kd.R_append (Kd.int .u8) (w0:=w) w.heap.size rfl (.tmp 14) (.tmp 19) 40 5 (.int .u8 0) 1 rfl Tryz.underlying40 info5 rfl zz2 zz5 u5 x0 ((j0)%256) [.int .u8 ((j0)%256)] (fun _=>True) (fun _=>False) rfl rfl ?aP (fun _ hk=>hk.elim) ?aF ?aO ?aB ?aS ?aL ?_;(case aP=>exact rfl);(case aB=>exact zb_);(case aF=>exact(fun _ _=>trivial));(case aO=>exact (kr_ O0));(case aS=>exact(below_size zb_));(case aL=>have:=L0.out;omega);intro v2 w1 ho hb hg hat;rw[←Y0.out]at ho;replace HB:=Aside0.mk (hb);have O1:=Aside0.mk (ho);clear O0;clear ho hb hg hat))
    go_roundg k0
    (case measure=>have:=K0.out;omega);case rel=>exact⟨(y0),(wrap64 (x1-8)),zr_,H',⟨zz4⟩,⟨by(with_reducible repeat(first|apply Kd.R_alloc|apply Kd.R_drewN|apply Kd.R_drew));exact O1.out⟩,⟨zb_⟩⟩
   ·rw[if_neg c1]at H;have f0:=decide_eq_false c1;clear c1;obtain rfl:=Option.some.inj H;have hcv8:=own_string (P:=Tryz.prog) Tryz.underlying40 Tryz.underlying5 Tryz.underlying9 (Kd.own_of_R O0.out);go_wp2
    go_ret;exact⟨ze_,zb_⟩
def bits_RotateLeft32.f (a0 a1:Int):Option (Int):=if 0≤(Go.bits .and .u64 (IntKind.u64.wrap (a1)) 31)then(if 0≤(IntKind.u64.wrap (32-(Go.bits .and .u64 (IntKind.u64.wrap (a1)) 31)))then(some (Go.bits .or .u32 (shl .u32 a0 (Go.bits .and .u64 (IntKind.u64.wrap (a1)) 31)) (shr .u32 a0 (IntKind.u64.wrap (32-(Go.bits .and .u64 (IntKind.u64.wrap (a1)) 31))))))else(none))else(none)
theorem bits_RotateLeft32.calls (a0 a1 r:Int) (w:World) (H:bits_RotateLeft32.f a0 a1=some r):
  Calls Tryz.prog 160 #[.int .u32 a0,.int .i64 a1] w fun e w'=>e= .returned (.int .u32 r)∧Drawn0 w w':=by
 unfold bits_RotateLeft32.f at H;generalize h0:(Go.bits .and .u64 (IntKind.u64.wrap (a1)) 31)=j0 at H
 replace H:=ifS_ H;obtain⟨c0,H⟩:=H;obtain⟨f0,f1⟩:=dT_ c0;clear c0;generalize h1:(shl .u32 a0 (j0))=j1 at H
 have h2:(IntKind.u32.wrap (a0*2^min (j0).toNat 32))=j1:=h1;have h3:(j0)≤32→(IntKind.u32.wrap (a0*2^(j0).toNat))=j1:=shl_small h1;generalize h4:(IntKind.u64.wrap (32-(j0)))=j2 at H
 replace H:=ifS_ H;obtain⟨c1,H⟩:=H;obtain⟨f2,f3⟩:=dT_ c1;clear c1;generalize h5:(shr .u32 a0 (j2))=j3 at H
 have h6:(a0/2^min (j2).toNat 32)=j3:=h5;have h7:(j2)≤32→(a0/2^(j2).toNat)=j3:=shr_small h5;obtain rfl:=Option.some.inj H;go_enter Tryz.func160,Tryz.ntmps160
 go_wp2
 go_ret;exact⟨by first|rfl|(simp;done)|(simp only[←h0,←h1,←h4,←h5]<;>(first|rfl|simp))|(simp[*];done),zd_⟩
def impl_turn.f (a0 a1:Int):Option (Int):=(bits_RotateLeft32.f ((a0)%4294967296) a1).bind fun t0=>(some (wrap64 (t0)))
theorem impl_turn.calls (a0 a1 r:Int) (w:World) (H:impl_turn.f a0 a1=some r):
  Calls Tryz.prog 139 #[.int .i64 a0,.int .i64 a1] w fun e w'=>e= .returned (.int .i64 r)∧Drawn0 w w':=by
 unfold impl_turn.f at H;replace H:=bS_ H;obtain⟨t0,A0,H⟩:=H;(try dsimp only at H);obtain rfl:=Option.some.inj H;go_enter Tryz.func139,Tryz.ntmps139
 go_wp2_with (first|((with_reducible refine gc_ 160 rfl ?_);refine gR 8 Tryz.func160 (bits_RotateLeft32.calls ((a0)%4294967296) a1 t0 _ A0.out) ?_;rintro w' ⟨nd,rfl⟩))
 go_ret;exact⟨zr_,zd_⟩
end Go.Proofs.YthmehmehoehlpaaGreatDoor.GFnExactRecText
