-- Printed by gen.py and its programs for this claim.
import Derived.Test.YthmehmehoehlpaaGreatDoorGFnExactRecTextx0
import Derived.Test.YthmehmehoehlpaaGreatDoorGFnExactRecTextx20
import Derived.Test.YthmehmehoehlpaaGreatDoorGFnExactRecTextx21
import Derived.Test.YthmehmehoehlpaaGreatDoorGFnExactRecTextx22
import Derived.Test.YthmehmehoehlpaaGreatDoorZFnExactRecText
namespace Go.Proofs.YthmehmehoehlpaaGreatDoor.GFnExactRecText
open Go.RowKit Go.Proofs.YthmehmehoehlpaaGreatDoorW.PrintWords Go.Proofs.YthmehmehoehlpaaGreatDoorW.PrintLast Go.Proofs.YthmehmehoehlpaaGreatDoorW.PrintMore Go.Proofs.YthmehmehoehlpaaGreatDoorW.Zs
set_option maxHeartbeats 40000000
set_option maxRecDepth 100000
attribute [local go_sem] max2_int min2_int max_two min_two max_three min_three max_four min_four
set_option linter.unusedVariables false
set_option linter.unusedSimpArgs false
theorem impl_CleanPath_ownB (A:Option Addr) (n c:Nat):(Value.slice A n c).ownBlock=A.map Addr.block:=by cases A<;>rfl
mutual
def impl_CleanPath.j0:Nat→ByteArray→Bool→Option (ByteArray)
 |0,_,_=>none
 |k+1,x0,x1=>if x1=true then(some (⟨#[]⟩:ByteArray))else((impl_unescaped.f k x0).bind fun t0=>(if 1≤(t0.size:Int)then((strings_Split.f (t0.extract 1 t0.size) (⟨#[47]⟩:ByteArray)).bind fun t1=>(impl_CleanPath.l0 k ([]:List ByteArray) t1 t1 (t1.length:Int) 0))else(none)))
def impl_CleanPath.l0:Nat→List ByteArray→List ByteArray→List ByteArray→Int→Int→Option (ByteArray)
 |0,_,_,_,_,_=>none
 |k+1,x0,x1,x2,x3,x4=>if x4<x3 then(if 0≤x4 then(if x4<(x2.length:Int)then(if(rdOf ByteArray.empty x2 x4).toList=([46]:List UInt8)then(impl_CleanPath.l0 k x0 x1 x2 x3 (wrap64 (x4+1)))else(if(rdOf ByteArray.empty x2 x4).toList=([46,46]:List UInt8)then(if 0≤(mx 0 (wrap64 ((x0.length:Int)-1)))then(if(mx 0 (wrap64 ((x0.length:Int)-1)))≤(x0.length:Int)then(impl_CleanPath.l0 k (x0.take ((mx 0 (wrap64 ((x0.length:Int)-1))):Int).toNat) x1 x2 x3 (wrap64 (x4+1)))else(none))else(none))else(if x0.length<8796093022208 then(impl_CleanPath.l0 k (x0++ [rdOf ByteArray.empty x2 x4]) x1 x2 x3 (wrap64 (x4+1)))else(none))))else(none))else(none))else(if 0≤(wrap64 ((x1.length:Int)-1))then(if(wrap64 ((x1.length:Int)-1))<(x1.length:Int)then(if(rdOf ByteArray.empty x1 (wrap64 ((x1.length:Int)-1))).toList=([46]:List UInt8)then(if x0.length<8796093022208 then((strings_Join.f (x0++ [(⟨#[]⟩:ByteArray)]) (⟨#[47]⟩:ByteArray)).bind fun t0=>(if 1+t0.size≤9223372036854775807 then(some ((⟨#[47]⟩:ByteArray)++t0))else(none)))else(none))else(if(rdOf ByteArray.empty x1 (wrap64 ((x1.length:Int)-1))).toList=([46,46]:List UInt8)then(if x0.length<8796093022208 then((strings_Join.f (x0++ [(⟨#[]⟩:ByteArray)]) (⟨#[47]⟩:ByteArray)).bind fun t1=>(if 1+t1.size≤9223372036854775807 then(some ((⟨#[47]⟩:ByteArray)++t1))else(none)))else(none))else((strings_Join.f x0 (⟨#[47]⟩:ByteArray)).bind fun t2=>(if 1+t2.size≤9223372036854775807 then(some ((⟨#[47]⟩:ByteArray)++t2))else(none)))))else(none))else(none))
end
def impl_CleanPath.f (k:Nat) (a0:ByteArray):Option (ByteArray):=(strings_HasPrefix.f a0 (⟨#[47]⟩:ByteArray)).bind fun t0=>(if t0=true then(if(a0.size:Int)>200 then(impl_CleanPath.j0 k a0 true)else((impl_all__impl_isVisible.f k a0).bind fun t1=>(if t1=true then((strings_ContainsAny.f a0 (⟨#[35,63]⟩:ByteArray)).bind fun t2=>(impl_CleanPath.j0 k a0 t2))else(impl_CleanPath.j0 k a0 true))))else(impl_CleanPath.j0 k a0 true))
theorem impl_CleanPath.calls (k:Nat) (a0 r:ByteArray) (w:World) (hG:Gl w) (H:impl_CleanPath.f k a0=some r):
  Calls Tryz.prog 91 #[.string a0] w fun e w'=>e= .returned (.string r)∧Below w.heap.size w w':=by
 have HG:=Aside0.mk hG;clear hG;have HB:=Aside0.mk (Below.refl w.heap.size w);unfold impl_CleanPath.f at H;have C0:=Aside0.mk H;clear H;go_enter Tryz.func91,Tryz.ntmps91
 go_upto_region 1 with(fail)
 go_cut [24] (fun v0 wc=> ∃(kq:Nat) (x0:Bool),v0= .bool x0∧Aside0 (impl_CleanPath.j0 kq a0 x0=some r)∧Aside0 (kq≤k)∧Aside0 (Below w.heap.size w wc))
 case first=>
  have H:=C0.out;clear C0;replace H:=bS_ H;obtain⟨t0,A0,H⟩:=H;(try dsimp only at H)
  by_cases c0:t0=true
  ·subst c0;rw[if_pos rfl]at H
   by_cases c1:(a0.size:Int)>200
   ·rw[if_pos c1]at H;have f0:=decide_eq_true c1;have f1:decide (200<a0.size)=true:=decide_eq_true zz5;clear c1;(first|rw[f0]|(simp only[i64_w,i32_w];rw[f0])|rw[f1]|(rw[f2];simp only[Bool.not_true,Bool.not_false])|skip);have H':=Aside0.mk H;clear H;go_wp2_with (first|((with_reducible refine gc_ 129 rfl ?_);refine gR 9 Tryz.func129 (strings_HasPrefix.calls a0 (⟨#[47]⟩:ByteArray) true _ A0.out) ?_;rintro w' ⟨nd,rfl⟩))
    go_meet
    case rel=>exact⟨_,(true),zr_,H',⟨zo_⟩,⟨zb_⟩⟩
   ·rw[if_neg c1]at H;have f0:=decide_eq_false c1;have f1:decide (200<a0.size)=false:=decide_eq_false zz5;clear c1;(first|rw[f0]|(simp only[i64_w,i32_w];rw[f0])|rw[f1]|(rw[f2];simp only[Bool.not_true,Bool.not_false])|skip);replace H:=bS_ H;obtain⟨t1,A1,H⟩:=H;(try dsimp only at H)
    by_cases c2:t1=true
    ·subst c2;rw[if_pos rfl]at H;replace H:=bS_ H;obtain⟨t2,A2,H⟩:=H;(try dsimp only at H);have H':=Aside0.mk H;clear H;go_wp2_with (first|((with_reducible refine gc_ 129 rfl ?_);refine gR 9 Tryz.func129 (strings_HasPrefix.calls a0 (⟨#[47]⟩:ByteArray) true _ A0.out) ?_;rintro w' ⟨nd,rfl⟩)|(go_at_call 83;(with_reducible refine(impl_all__impl_isVisible.calls k a0 true _ A1.out).mono ?_);rintro e w' ⟨rfl,⟨nd,rfl⟩⟩)|(go_at_call 130;(with_reducible refine(strings_ContainsAny.calls a0 (⟨#[35,63]⟩:ByteArray) t2 _ A2.out).mono ?_);rintro e w1 ⟨rfl,hb⟩;have n0_:=Aside0.mk (below_step zb_ hb);clear HB;have HB:=n0_;clear n0_;(try clear hb)))
     go_meet
     case rel=>exact⟨_,(t2),zr_,H',⟨zo_⟩,⟨zb_⟩⟩
    ·replace c2:=Bool.eq_false_iff.mpr c2;subst c2;rw[if_neg Bool.false_ne_true]at H;have H':=Aside0.mk H;clear H;go_wp2_with (first|((with_reducible refine gc_ 129 rfl ?_);refine gR 9 Tryz.func129 (strings_HasPrefix.calls a0 (⟨#[47]⟩:ByteArray) true _ A0.out) ?_;rintro w' ⟨nd,rfl⟩)|(go_at_call 83;(with_reducible refine(impl_all__impl_isVisible.calls k a0 false _ A1.out).mono ?_);rintro e w' ⟨rfl,⟨nd,rfl⟩⟩))
     go_meet
     case rel=>exact⟨_,(true),zr_,H',⟨zo_⟩,⟨zb_⟩⟩
  ·replace c0:=Bool.eq_false_iff.mpr c0;subst c0;rw[if_neg Bool.false_ne_true]at H;have H':=Aside0.mk H;clear H;go_wp2_with (first|((with_reducible refine gc_ 129 rfl ?_);refine gR 9 Tryz.func129 (strings_HasPrefix.calls a0 (⟨#[47]⟩:ByteArray) false _ A0.out) ?_;rintro w' ⟨nd,rfl⟩))
   go_meet
   case rel=>exact⟨_,(true),zr_,H',⟨zo_⟩,⟨zb_⟩⟩
 case rest=>
  clear C0;(try clear c3);(try clear p0);(try clear c0);(try clear c1);(try clear f0);(try clear f1);(try clear c2);(try clear c4);obtain⟨kq,x0,rfl,HA,J0,HB⟩:=hcut
  cases kq with
  |zero=>exact absurd HA.out (by simp[impl_CleanPath.j0])
  |succ k0=>
   have H:=HA.out;clear HA;simp only[impl_CleanPath.j0]at H
   by_cases c5:x0=true
   ·subst c5;rw[if_pos rfl]at H;obtain rfl:=Option.some.inj H;go_wp2
    go_ret;exact⟨ze_,zb_⟩
   ·replace c5:=Bool.eq_false_iff.mpr c5;subst c5;rw[if_neg Bool.false_ne_true]at H;replace H:=bS_ H;obtain⟨t3,A3,H⟩:=H;(try dsimp only at H)
    replace H:=ifS_ H;obtain⟨c6,H⟩:=H;obtain⟨f3,f4⟩:=dT_ c6;clear c6;replace H:=bS_ H;obtain⟨t4,A4,H⟩:=H;(try dsimp only at H);have H':=Aside0.mk H;clear H;go_wp2_with (first|((with_reducible refine gc_ 132 rfl ?_);refine gR 26 Tryz.func132 (impl_unescaped.calls k0 a0 t3 _ A3.out) ?_;rintro w2 hb;replace HB:=Aside0.mk (below_step zb_ hb);(try clear hb))|((with_reducible refine gc_ 131 rfl ?_);refine gV 28 Tryz.func131 (strings_Split.calls (t3.extract 1 t3.size) (⟨#[47]⟩:ByteArray) t4 _ (Gl.below HG.out zb_) A4.out) ?_;rintro v1 w3 ⟨h0,hb⟩;have O0:=Aside0.mk (Kd.R_lower h0 (below_size zb_));replace HB:=Aside0.mk (below_step zb_ hb);(try clear hb);(try clear h0);obtain⟨a1,o0,e0⟩:=Kd.R_slice O0.out;subst e0))
    go_loopg [3,31] k0 (fun kq v2 v3 w'=> ∃(x1:List ByteArray) (x2:Int),v3= .int .i64 x2∧Aside0 (impl_CleanPath.l0 kq x1 t4 t4 (t4.length:Int) x2=some r)∧Aside0 (kq≤k0)∧Aside0 (Kd.R Kd.string 9 w' w.heap.size (fun k_=>some k_≠((.slice a1 t4.length o0):Value).ownBlock∧some k_≠((.slice a1 t4.length o0):Value).ownBlock) v2 x1)∧Aside0 (Kd.R Kd.string 9 w' w.heap.size (fun k_=>some k_≠(v2:Value).ownBlock) (.slice a1 t4.length o0) t4)∧Aside0 (Kd.R Kd.string 9 w' w.heap.size (fun k_=>some k_≠(v2:Value).ownBlock) (.slice a1 t4.length o0) t4)∧Aside0 (Below w.heap.size w w'))
    case atStart=>exact⟨(([]:List ByteArray)),(0),zr_,H',⟨Nat.le_refl _⟩,⟨zn_⟩,⟨zz22⟩,⟨zz22⟩,⟨zb_⟩⟩
    case round=>
     clear H';(try clear c3);(try clear p0);(try clear c0);(try clear c1);(try clear f0);(try clear f1);(try clear c2);(try clear c4);(try clear c5);(try clear c6);(try clear f3);(try clear f4);(try clear c7);(try clear p0);obtain⟨x1,x2,rfl,HA,K0,O1,O2,O3,HB⟩:=hrel
     cases gk with
     |zero=>exact absurd HA.out (by simp[impl_CleanPath.l0])
     |succ k1=>
      have H:=HA.out;clear HA;simp only[impl_CleanPath.l0]at H
      by_cases c8:x2<(t4.length:Int)
      ·rw[if_pos c8]at H;have f5:=decide_eq_true c8;clear c8
       replace H:=ifS_ H;obtain⟨c9,H⟩:=H;have f6:=decide_eq_true c9;clear c9
       replace H:=ifS_ H;obtain⟨c10,H⟩:=H;have f7:=decide_eq_true c10;clear c10
       by_cases c11:(rdOf ByteArray.empty t4 x2).toList=([46]:List UInt8)
       ·rw[if_pos c11]at H;obtain⟨f8,f9⟩:=bqT_ c11;clear c11;have H':=Aside0.mk H;clear H;have p1:0≤(x2:Int):=of_decide_eq_true za_;have q0:x2<(t4.length:Int):=of_decide_eq_true za_;obtain⟨d0,e1,h1⟩:=Kd.at_string (Kd.R_reads' O3.out).2.2 x2 p1 q0;cases e1;replace p1:=eq_true p1;replace q0:=eq_true q0;go_wp2
        go_roundg k1
        (case measure=>have:=J0.out;have:=K0.out;omega);case rel=>exact⟨(x1),(wrap64 (x2+1)),zr_,H',⟨zz6⟩,⟨by(with_reducible repeat(first|apply Kd.R_alloc|apply Kd.R_drewN|apply Kd.R_drew));first|exact O1.out|exact Kd.R_mono O1.out (fun _ hk_=>zz21)⟩,⟨zz35⟩,⟨zz34⟩,⟨zb_⟩⟩
       ·rw[if_neg c11]at H;obtain⟨f8,f9⟩:=bqF_ c11
        by_cases c12:(rdOf ByteArray.empty t4 x2).toList=([46,46]:List UInt8)
        ·rw[if_pos c12]at H;obtain⟨f10,f11⟩:=bqT_ c12;clear c12;generalize h2:(mx 0 (wrap64 ((x1.length:Int)-1)))=j1 at H
         have h3:(if 0<(wrap64 ((x1.length:Int)-1))then(wrap64 ((x1.length:Int)-1))else 0)=j1:=h2
         replace H:=ifS_ H;obtain⟨c13,H⟩:=H;obtain⟨f12,f13⟩:=dT_ c13;clear c13
         replace H:=ifS_ H;obtain⟨c14,H⟩:=H;obtain⟨f14,f15⟩:=dT_ c14;clear c14;generalize h4:(x1.take ((j1):Int).toNat:List ByteArray)=y0 at H;have Y0:=Aside0.mk h4.symm;clear h4;have H':=Aside0.mk H;clear H;have p1:0≤(x2:Int):=of_decide_eq_true za_;have q0:x2<(t4.length:Int):=of_decide_eq_true za_;obtain⟨d0,e1,h1⟩:=Kd.at_string (Kd.R_reads' O3.out).2.2 x2 p1 q0;cases e1;replace p1:=eq_true p1;replace q0:=eq_true q0;obtain⟨a2,o1,e2⟩:=Kd.R_slice O1.out;subst e2;have q1:((j1):Int)≤((x1.length:Int):Int):=of_decide_eq_true za_;obtain⟨i0,h5,_,h6,_⟩:=info_parts info9;have h7:=cut_to (P:=Tryz.prog) 58 9 .i64 Tryz.underlying58 h5 a2 x1.length o1 (j1) (of_decide_eq_true za_) q1 (Kd.R_reads' O1.out).2.1;have h8:=Kd.R_take (m:=((j1):Int).toNat) O1.out zz5;have h9:y0.length=((j1):Int).toNat:=(by rw[Y0.out,List.length_take];omega);rw[←Y0.out]at h8;rw[←h9]at h8 h7;clear h9 h5 h6 O1;have O4:=Aside0.mk h8;clear h8;replace q1:=eq_true q1;go_wp2
         go_roundg k1
         (case measure=>have:=J0.out;have:=K0.out;omega);case rel=>exact⟨(y0),(wrap64 (x2+1)),zr_,H',⟨zz6⟩,⟨by(with_reducible repeat(first|apply Kd.R_alloc|apply Kd.R_drewN|apply Kd.R_drew));first|exact O4.out|exact Kd.R_mono O4.out (fun _ hk_=>zz21)⟩,⟨zz35⟩,⟨zz34⟩,⟨zb_⟩⟩
        ·rw[if_neg c12]at H;obtain⟨f10,f11⟩:=bqF_ c12
         replace H:=ifS_ H;obtain⟨c15,H⟩:=H;have L0:=Aside0.mk c15;clear c15;generalize h10:(x1++ [rdOf ByteArray.empty t4 x2]:List ByteArray)=y1 at H;have Y1:=Aside0.mk h10.symm;clear h10;have H':=Aside0.mk H;clear H;have p1:0≤(x2:Int):=of_decide_eq_true za_;have q0:x2<(t4.length:Int):=of_decide_eq_true za_;obtain⟨d0,e1,h1⟩:=Kd.at_string (Kd.R_reads' O3.out).2.2 x2 p1 q0;cases e1;replace p1:=eq_true p1;replace q0:=eq_true q0;go_wp2_with (first|((with_reducible refine gate_builtin (b:= .append) (xs:= #[.tmp 36,.tmp 38]) rfl ?_);(try(refine gate_guard (by rfl) ?_;dsimp only));at_builtin;refine Kd.R_append Kd.string (w0:=w) w.heap.size rfl (.tmp 36) (.tmp 38) 58 9 (.string ⟨#[]⟩) 16 rfl Tryz.underlying58 info9 rfl zz2 zz5 u3 x1 (rdOf ByteArray.empty t4 x2) [.string (rdOf ByteArray.empty t4 x2)] (fun k_=>some k_≠(.slice (some d0) t4.length o0:Value).ownBlock∧some k_≠(.slice (some d0) t4.length o0:Value).ownBlock) (fun _=>False) rfl rfl ?aP (fun _ hk=>hk.elim) ?aF ?aO ?aB ?aS ?aL ?_;(case aP=>exact rfl);(case aB=>exact zb_);(case aF=>exact(fun k_ hk=>⟨Kd.fresh' (Kd.R_lt (kr_ O2)) k_ hk,Kd.fresh' (Kd.R_lt (kr_ O3)) k_ hk⟩));(case aO=>exact (kr_ O1));(case aS=>exact(below_size zb_));(case aL=>have:=L0.out;omega);intro v4 w4 ho hb hg hat;rw[←Y1.out]at ho;replace O2:=Aside0.mk (Kd.R_after (ok:=(fun _=>True)) zz20 hg hat);replace O3:=Aside0.mk (Kd.R_after (ok:=(fun _=>True)) zz19 hg hat);replace HB:=Aside0.mk (hb);have O5:=Aside0.mk (ho);clear O1;clear ho hb hg hat))
         go_roundg k1
         (case measure=>have:=J0.out;have:=K0.out;omega);case rel=>exact⟨(y1),(wrap64 (x2+1)),zr_,H',⟨zz6⟩,⟨by(with_reducible repeat(first|apply Kd.R_alloc|apply Kd.R_drewN|apply Kd.R_drew));first|exact O5.out|exact Kd.R_mono O5.out (fun _ hk_=>zz21)⟩,⟨(by(with_reducible repeat(first|apply Kd.R_alloc|apply Kd.R_drewN|apply Kd.R_drew));exact Kd.R_mono O2.out (fun _ hk=>hk.2))⟩,⟨by(with_reducible repeat(first|apply Kd.R_alloc|apply Kd.R_drewN|apply Kd.R_drew));exact Kd.R_mono O3.out (fun _ hk=>hk.2)⟩,⟨zb_⟩⟩
      ·rw[if_neg c8]at H;have f5:=decide_eq_false c8;clear c8;generalize h11:(wrap64 ((t4.length:Int)-1))=j2 at H
       have h12:(IntKind.i64.wrap ((t4.length:Int)-1))=j2:=(i64_w _).trans h11
       replace H:=ifS_ H;obtain⟨c16,H⟩:=H;have f16:=decide_eq_true c16;clear c16
       replace H:=ifS_ H;obtain⟨c17,H⟩:=H;have f17:=decide_eq_true c17;clear c17;have C1:=Aside0.mk H;clear H;have p2:0≤((j2):Int):=of_decide_eq_true za_;have q2:(j2)<(t4.length:Int):=of_decide_eq_true za_;obtain⟨d1,e3,h13⟩:=Kd.at_string (Kd.R_reads' O2.out).2.2 (j2) p2 q2;cases e3;replace p2:=eq_true p2;replace q2:=eq_true q2
       repeat' (first|(go_big_may;(fail))|go_values|go_skip|go_big_skip|go_big_want|((first|(with_reducible refine gate_nog rfl ?_)|(fail_if_success with_reducible refine gate_any ?_));go_step)|go_upon|simp only[Bool.not_true,Bool.not_false,Bool.true_and,Bool.false_and,Bool.true_or,Bool.false_or]|dsimp only)
       have H:=C1.out;clear C1
       by_cases c18:(rdOf ByteArray.empty t4 (j2)).toList=([46]:List UInt8)
       ·rw[if_pos c18]at H;obtain⟨f18,f19⟩:=bqT_ c18;clear c18;(first|rw[f18]|(simp only[i64_w,i32_w];rw[f18])|rw[f19]|(rw[f20];simp only[Bool.not_true,Bool.not_false])|skip)
        replace H:=ifS_ H;obtain⟨c19,H⟩:=H;have L1:=Aside0.mk c19;clear c19;generalize h14:(x1++ [(⟨#[]⟩:ByteArray)]:List ByteArray)=y2 at H;have Y2:=Aside0.mk h14.symm;clear h14;replace H:=bS_ H;obtain⟨t5,A5,H⟩:=H;(try dsimp only at H)
        replace H:=ifS_ H;obtain⟨c20,H⟩:=H;obtain⟨f21,f22⟩:=dT_ c20;(try have f23:=eq_false (Nat.not_lt.2 c20));obtain rfl:=Option.some.inj H;go_wp2_with (first|((with_reducible refine gate_builtin (b:= .append) (xs:= #[.tmp 63,.tmp 64]) rfl ?_);(try(refine gate_guard (by rfl) ?_;dsimp only));at_builtin;refine Kd.R_append Kd.string (w0:=w) w.heap.size rfl (.tmp 63) (.tmp 64) 58 9 (.string ⟨#[]⟩) 16 rfl Tryz.underlying58 info9 rfl zz2 zz5 u3 x1 (⟨#[]⟩:ByteArray) [.string (⟨#[]⟩:ByteArray)] (fun k_=>some k_≠(.slice (some d1) t4.length o0:Value).ownBlock∧some k_≠(.slice (some d1) t4.length o0:Value).ownBlock) (fun _=>False) rfl rfl ?aP (fun _ hk=>hk.elim) ?aF ?aO ?aB ?aS ?aL ?_;(case aP=>exact rfl);(case aB=>exact zb_);(case aF=>exact(fun k_ hk=>⟨Kd.fresh' (Kd.R_lt (kr_ O2)) k_ hk,Kd.fresh' (Kd.R_lt (kr_ O3)) k_ hk⟩));(case aO=>exact (kr_ O1));(case aS=>exact(below_size zb_));(case aL=>have:=L1.out;omega);intro v5 w5 ho hb hg hat;rw[←Y2.out]at ho;replace O2:=Aside0.mk (Kd.R_after (ok:=(fun _=>True)) zz20 hg hat);replace O3:=Aside0.mk (Kd.R_after (ok:=(fun _=>True)) zz19 hg hat);replace HB:=Aside0.mk (hb);have O6:=Aside0.mk (ho);clear O1;clear ho hb hg hat;obtain⟨a3,o2,e4⟩:=Kd.R_slice O6.out;subst e4)|((with_reducible refine gc_ 133 rfl ?_);refine gR 67 Tryz.func133 (strings_Join.calls _ _ y2 (⟨#[47]⟩:ByteArray) t5 _ (by repeat(first|exact(Kd.R_reads' O6.out).2.2|(with_reducible refine Kd.C_alloc ?_ _)|(with_reducible refine Kd.C_drewN ?_ _)|(with_reducible refine Kd.C_drew ?_))) ((Kd.R_reads' O6.out).2.1) A5.out) ?_;rintro w6 hb;replace O2:=Aside0.mk (Kd.R_below (kr_ O2) hb);replace O3:=Aside0.mk (Kd.R_below (kr_ O3) hb);replace O6:=Aside0.mk (Kd.R_below (kr_ O6) hb);replace HB:=Aside0.mk (below_step zb_ hb);(try clear hb)))
        go_ret;exact⟨zz18,zb_⟩
       ·rw[if_neg c18]at H;obtain⟨f18,f19⟩:=bqF_ c18;(first|rw[f18]|(simp only[i64_w,i32_w];rw[f18])|rw[f19]|(rw[f20];simp only[Bool.not_true,Bool.not_false])|skip)
        by_cases c21:(rdOf ByteArray.empty t4 (j2)).toList=([46,46]:List UInt8)
        ·rw[if_pos c21]at H;obtain⟨f24,f25⟩:=bqT_ c21;clear c21
         replace H:=ifS_ H;obtain⟨c22,H⟩:=H;have L2:=Aside0.mk c22;clear c22;generalize h15:(x1++ [(⟨#[]⟩:ByteArray)]:List ByteArray)=y3 at H;have Y3:=Aside0.mk h15.symm;clear h15;replace H:=bS_ H;obtain⟨t6,A6,H⟩:=H;(try dsimp only at H)
         replace H:=ifS_ H;obtain⟨c23,H⟩:=H;obtain⟨f26,f27⟩:=dT_ c23;(try have f28:=eq_false (Nat.not_lt.2 c23));obtain rfl:=Option.some.inj H;go_wp2_with (first|((with_reducible refine gate_builtin (b:= .append) (xs:= #[.tmp 63,.tmp 64]) rfl ?_);(try(refine gate_guard (by rfl) ?_;dsimp only));at_builtin;refine Kd.R_append Kd.string (w0:=w) w.heap.size rfl (.tmp 63) (.tmp 64) 58 9 (.string ⟨#[]⟩) 16 rfl Tryz.underlying58 info9 rfl zz2 zz5 u3 x1 (⟨#[]⟩:ByteArray) [.string (⟨#[]⟩:ByteArray)] (fun k_=>some k_≠(.slice (some d1) t4.length o0:Value).ownBlock∧some k_≠(.slice (some d1) t4.length o0:Value).ownBlock) (fun _=>False) rfl rfl ?aP (fun _ hk=>hk.elim) ?aF ?aO ?aB ?aS ?aL ?_;(case aP=>exact rfl);(case aB=>exact zb_);(case aF=>exact(fun k_ hk=>⟨Kd.fresh' (Kd.R_lt (kr_ O2)) k_ hk,Kd.fresh' (Kd.R_lt (kr_ O3)) k_ hk⟩));(case aO=>exact (kr_ O1));(case aS=>exact(below_size zb_));(case aL=>have:=L2.out;omega);intro v6 w7 ho hb hg hat;rw[←Y3.out]at ho;replace O2:=Aside0.mk (Kd.R_after (ok:=(fun _=>True)) zz20 hg hat);replace O3:=Aside0.mk (Kd.R_after (ok:=(fun _=>True)) zz19 hg hat);replace HB:=Aside0.mk (hb);have O7:=Aside0.mk (ho);clear O1;clear ho hb hg hat;obtain⟨a4,o3,e5⟩:=Kd.R_slice O7.out;subst e5)|((with_reducible refine gc_ 133 rfl ?_);refine gR 67 Tryz.func133 (strings_Join.calls _ _ y3 (⟨#[47]⟩:ByteArray) t6 _ (by repeat(first|exact(Kd.R_reads' O7.out).2.2|(with_reducible refine Kd.C_alloc ?_ _)|(with_reducible refine Kd.C_drewN ?_ _)|(with_reducible refine Kd.C_drew ?_))) ((Kd.R_reads' O7.out).2.1) A6.out) ?_;rintro w8 hb;replace O2:=Aside0.mk (Kd.R_below (kr_ O2) hb);replace O3:=Aside0.mk (Kd.R_below (kr_ O3) hb);replace O7:=Aside0.mk (Kd.R_below (kr_ O7) hb);replace HB:=Aside0.mk (below_step zb_ hb);(try clear hb)))
         go_ret;exact⟨zz18,zb_⟩
        ·rw[if_neg c21]at H;obtain⟨f24,f25⟩:=bqF_ c21;replace H:=bS_ H;obtain⟨t7,A7,H⟩:=H;(try dsimp only at H)
         replace H:=ifS_ H;obtain⟨c24,H⟩:=H;obtain⟨f29,f30⟩:=dT_ c24;(try have f31:=eq_false (Nat.not_lt.2 c24));obtain rfl:=Option.some.inj H;obtain⟨a5,o4,e6⟩:=Kd.R_slice O1.out;subst e6;go_wp2_with (first|((with_reducible refine gc_ 133 rfl ?_);refine gR 67 Tryz.func133 (strings_Join.calls _ _ x1 (⟨#[47]⟩:ByteArray) t7 _ zz10 ((Kd.R_reads' O1.out).2.1) A7.out) ?_;rintro w9 hb;replace O1:=Aside0.mk (Kd.R_below (kr_ O1) hb);replace O2:=Aside0.mk (Kd.R_below (kr_ O2) hb);replace O3:=Aside0.mk (Kd.R_below (kr_ O3) hb);replace HB:=Aside0.mk (below_step zb_ hb);(try clear hb)))
         go_ret;exact⟨zz18,zb_⟩
def impl_portText.f (a0:ByteArray) (a1:Int) (a2 a3:ByteArray) (a4:Bool):Option (ByteArray):=if a1=80 then(some (⟨#[]⟩:ByteArray))else((strconv_Itoa.f a1).bind fun t0=>(if 1+t0.size≤9223372036854775807 then(some ((⟨#[58]⟩:ByteArray)++t0))else(none)))
theorem impl_portText.calls (a0:ByteArray) (a1:Int) (a2 a3:ByteArray) (a4:Bool) (r:ByteArray) (w:World) (hG:Gl w) (H:impl_portText.f a0 a1 a2 a3 a4=some r):
  Calls Tryz.prog 93 #[.agg #[.string a0,.int .i64 a1,.string a2,.string a3,.bool a4]] w fun e w'=>e= .returned (.string r)∧Below w.heap.size w w':=by
 have hu63:=Tryz.underlying63;have HG:=Aside0.mk hG;clear hG;have HB:=Aside0.mk (Below.refl w.heap.size w);unfold impl_portText.f at H;have C0:=Aside0.mk H;clear H;go_enter Tryz.func93,Tryz.ntmps93
 go_upto_if 5 with(first|((with_reducible refine gate_dst (N:=1) rfl ?_);refine boxP_ (N:=1) (cs:= #[.string a0,.int .i64 a1,.string a2,.string a3,.bool a4]) (t:=63) ?_;intro g0 hg w0 hbox hb;have B0:=Aside0.mk (hbox);have G0:=geb_ (w:=w) hg zb_;replace HB:=Aside0.mk (below_step zb_ hb);clear hb hbox hg;obtain⟨_,_,_,_,_,_,_,_,_,_⟩:=cells5_ B0.out))
 (try simp only[Act.put,List.setIfInBounds_toArray,List.set_cons_zero,List.set_cons_succ]);have H:=C0.out;clear C0
 by_cases c0:a1=80
 ·rw[if_pos c0]at H;obtain⟨f0,f1⟩:=bqT_ c0;clear c0;(first|rw[f0]|(simp only[i64_w,i32_w];rw[f0])|rw[f1]|(rw[f2];simp only[Bool.not_true,Bool.not_false])|skip);obtain rfl:=Option.some.inj H;go_wp2
  go_ret;exact⟨ze_,zb_⟩
 ·rw[if_neg c0]at H;obtain⟨f0,f1⟩:=bqF_ c0;(first|rw[f0]|(simp only[i64_w,i32_w];rw[f0])|rw[f1]|(rw[f2];simp only[Bool.not_true,Bool.not_false])|skip);replace H:=bS_ H;obtain⟨t0,A0,H⟩:=H;(try dsimp only at H)
  replace H:=ifS_ H;obtain⟨c1,H⟩:=H;obtain⟨f3,f4⟩:=dT_ c1;(try have f5:=eq_false (Nat.not_lt.2 c1));obtain rfl:=Option.some.inj H;obtain⟨_,_,_,_,_,_,_,_,_,_⟩:=cells5_ B0.out;go_wp2_with (first|((with_reducible refine gc_ 33 rfl ?_);refine gR 8 Tryz.func33 (strconv_Itoa.calls a1 t0 _ (Gl.below HG.out zb_) A0.out) ?_;rintro w1 hb;replace B0:=Aside0.mk (blk_below (bk_ B0) hb);replace HB:=Aside0.mk (below_step zb_ hb);(try clear hb)))
  go_ret;exact⟨ze_,zb_⟩
def impl_pathText.f (a0:ByteArray) (a1:Int) (a2 a3:ByteArray) (a4:Bool):Option (ByteArray):=if a4=true then(if a2.size+1≤9223372036854775807 then(if(a2++(⟨#[63]⟩:ByteArray)).size+a3.size≤9223372036854775807 then(some ((a2++(⟨#[63]⟩:ByteArray))++a3))else(none))else(none))else(some a2)
theorem impl_pathText.calls (a0:ByteArray) (a1:Int) (a2 a3:ByteArray) (a4:Bool) (r:ByteArray) (w:World) (H:impl_pathText.f a0 a1 a2 a3 a4=some r):
  Calls Tryz.prog 94 #[.agg #[.string a0,.int .i64 a1,.string a2,.string a3,.bool a4]] w fun e w'=>e= .returned (.string r)∧Below w.heap.size w w':=by
 have hu63:=Tryz.underlying63;have HB:=Aside0.mk (Below.refl w.heap.size w);unfold impl_pathText.f at H;have C0:=Aside0.mk H;clear H;go_enter Tryz.func94,Tryz.ntmps94
 go_upto_if 4 with(first|((with_reducible refine gate_dst (N:=1) rfl ?_);refine boxP_ (N:=1) (cs:= #[.string a0,.int .i64 a1,.string a2,.string a3,.bool a4]) (t:=63) ?_;intro g0 hg w0 hbox hb;have B0:=Aside0.mk (hbox);have G0:=geb_ (w:=w) hg zb_;replace HB:=Aside0.mk (below_step zb_ hb);clear hb hbox hg;obtain⟨_,_,_,_,_,_,_,_,_,_⟩:=cells5_ B0.out))
 (try simp only[Act.put,List.setIfInBounds_toArray,List.set_cons_zero,List.set_cons_succ]);have H:=C0.out;clear C0
 by_cases c0:a4=true
 ·subst c0;rw[if_pos rfl]at H
  replace H:=ifS_ H;obtain⟨c1,H⟩:=H;obtain⟨f0,f1⟩:=dT_ c1;try have f2:=eq_false (Nat.not_lt.2 c1)
  replace H:=ifS_ H;obtain⟨c2,H⟩:=H;obtain⟨f3,f4⟩:=dT_ c2;(try have f5:=eq_false (Nat.not_lt.2 c2));(try have f6:=f5;simp only[ByteArray.size_append,show(⟨#[63]⟩:ByteArray).size=1 from rfl]at f6;have f7:=f6);obtain rfl:=Option.some.inj H;obtain⟨_,_,_,_,_,_,_,_,_,_⟩:=cells5_ B0.out;go_wp2
  go_ret;exact⟨ze_,zb_⟩
 ·replace c0:=Bool.eq_false_iff.mpr c0;subst c0;rw[if_neg Bool.false_ne_true]at H;obtain rfl:=Option.some.inj H;obtain⟨_,_,_,_,_,_,_,_,_,_⟩:=cells5_ B0.out;go_wp2
  go_ret;exact⟨ze_,zb_⟩
def impl_urlText.f (a0:ByteArray) (a1:Int) (a2 a3:ByteArray) (a4:Bool):Option (ByteArray):=if 7+a0.size≤9223372036854775807 then((impl_portText.f a0 a1 a2 a3 a4).bind fun t0=>(if((⟨#[104,116,116,112,58,47,47]⟩:ByteArray)++a0).size+t0.size≤9223372036854775807 then((impl_pathText.f a0 a1 a2 a3 a4).bind fun t1=>(if(((⟨#[104,116,116,112,58,47,47]⟩:ByteArray)++a0)++t0).size+t1.size≤9223372036854775807 then(some ((((⟨#[104,116,116,112,58,47,47]⟩:ByteArray)++a0)++t0)++t1))else(none)))else(none)))else(none)
def impl_urlText.T1:Bool×List (List Nat×List Nat):=(true,[([],[]),([0],[0]),([1],[1]),([],[]),([3],[3]),([2,4],[2,4]),([],[]),([6,4],[6]),([5,7],[5,7]),([8,7,0,1,2,3,4,5,6,7,8],[8])])
def impl_urlText.B1:List Nat:= [0,1,3,0,8,31,0,88,255,511]
theorem impl_urlText.tab1:rtab .any (opsOf Tryz.f62 1)=impl_urlText.T1:=by kernel_rfl
theorem impl_urlText.bits1:waitsOk impl_urlText.T1.2 impl_urlText.B1=true:=by kernel_rfl
theorem impl_urlText.calls (a0:ByteArray) (a1:Int) (a2 a3:ByteArray) (a4:Bool) (r:ByteArray) (w:World) (hG:Gl w) (H:impl_urlText.f a0 a1 a2 a3 a4=some r):
  Calls Tryz.prog 62 #[.agg #[.string a0,.int .i64 a1,.string a2,.string a3,.bool a4]] w fun e w'=>e= .returned (.string r)∧Below w.heap.size w w':=by
 have hu63:=Tryz.underlying63;have HG:=Aside0.mk hG;clear hG;have HB:=Aside0.mk (Below.refl w.heap.size w);unfold impl_urlText.f at H
 replace H:=ifS_ H;obtain⟨c0,H⟩:=H;obtain⟨f0,f1⟩:=dT_ c0;(try have f2:=eq_false (Nat.not_lt.2 c0));replace H:=bS_ H;obtain⟨t0,A0,H⟩:=H;(try dsimp only at H)
 replace H:=ifS_ H;obtain⟨c1,H⟩:=H;obtain⟨f3,f4⟩:=dT_ c1;(try have f5:=eq_false (Nat.not_lt.2 c1));(try have f6:=f5;simp only[ByteArray.size_append,show(⟨#[104,116,116,112,58,47,47]⟩:ByteArray).size=7 from rfl]at f6;have f7:=f6);replace H:=bS_ H;obtain⟨t1,A1,H⟩:=H;(try dsimp only at H)
 replace H:=ifS_ H;obtain⟨c2,H⟩:=H;obtain⟨f8,f9⟩:=dT_ c2;(try have f10:=eq_false (Nat.not_lt.2 c2));(try have f11:=f10;simp only[ByteArray.size_append,show(⟨#[104,116,116,112,58,47,47]⟩:ByteArray).size=7 from rfl]at f11;have f12:=f11);obtain rfl:=Option.some.inj H;go_enter Tryz.func62,Tryz.ntmps62
 (try go_wp2_with (first|((with_reducible refine gate_dst (N:=1) rfl ?_);refine boxP_ (N:=1) (cs:= #[.string a0,.int .i64 a1,.string a2,.string a3,.bool a4]) (t:=63) ?_;intro g0 hg w0 hbox hb;have B0:=Aside0.mk (hbox);have G0:=geb_ (w:=w) hg zb_;replace HB:=Aside0.mk (below_step zb_ hb);clear hb hbox hg)));have n0_:=Aside0.mk (blk_drew B0.out);have n1_:=Aside0.mk (below_drew1 HB.out);clear B0;clear HB;have B0:=n0_;have HB:=n1_;clear n0_ n1_;refine st_ (n:=10) (S:=fun w'=>w'.cell? ⟨g0,0,none⟩=some (.string a0)∧w'.cell? ⟨g0,1,none⟩=some (.int .i64 a1)∧w'.cell? ⟨g0,2,none⟩=some (.string a2)∧w'.cell? ⟨g0,3,none⟩=some (.string a3)∧w'.cell? ⟨g0,4,none⟩=some (.bool a4)) (ds:= []) ⟨(blk_cell B0.out 0).trans rfl,(blk_cell B0.out 1).trans rfl,(blk_cell B0.out 2).trans rfl,(blk_cell B0.out 3).trans rfl,(blk_cell B0.out 4).trans rfl⟩ (fun hHeld=>?_);refine with_tabW impl_urlText.tab1 impl_urlText.bits1 (fun HT_ HW_=>?_);generalize w0.drew=w1 at B0 HB hHeld ⊢;refine pz 0 3 ?_;refine tk0_ 1 4 hHeld ?_;refine pz 2 5 ?_;refine tk0_ 3 6 hHeld ?_;refine tk0_ 6 9 hHeld ?_;refine ozG 4 7 Tryz.func93 #[.agg #[.string a0,.int .i64 a1,.string a2,.string a3,.bool a4]] (fun K hK=>?_);(with_reducible refine(impl_portText.calls a0 a1 a2 a3 a4 t0 _ (Gl.below HG.out zb_) A0.out).mono ?_);rintro e w2 ⟨rfl,hb⟩;refine⟨_,rfl,?_⟩;have n0_:=Aside0.mk (blk_below (bk_ B0) hb);have n1_:=Aside0.mk (below_step zb_ hb);clear B0;clear HB;have B0:=n0_;have HB:=n1_;clear n0_ n1_;(try clear hb);refine hK.out _ _ ⟨(blk_cell B0.out 0).trans rfl,(blk_cell B0.out 1).trans rfl,(blk_cell B0.out 2).trans rfl,(blk_cell B0.out 3).trans rfl,(blk_cell B0.out 4).trans rfl⟩ (fun hHeld=>?_);clear hK K;refine nz ?_;refine pz 5 8 ?_;refine oZ 7 10 Tryz.func94 (impl_pathText.calls a0 a1 a2 a3 a4 t1 _ A1.out) (fun K hK=>?_);rintro w3 hb;have n0_:=Aside0.mk (blk_below (bk_ B0) hb);have n1_:=Aside0.mk (below_step zb_ hb);clear B0;clear HB;have B0:=n0_;have HB:=n1_;clear n0_ n1_;(try clear hb);refine hK.out _ _ ⟨(blk_cell B0.out 0).trans rfl,(blk_cell B0.out 1).trans rfl,(blk_cell B0.out 2).trans rfl,(blk_cell B0.out 3).trans rfl,(blk_cell B0.out 4).trans rfl⟩ (fun hHeld=>?_);clear hK K;refine nz ?_;refine pz 8 11 ?_;refine pz 9 2 ?_;refine done_ (done_of HT_.out zz0) ?_;(try go_wp2);go_ret;exact⟨ze_,zb_⟩
def impl_isHost_1.f (a0:Int):Option (Bool):=(impl_isLower.f a0).bind fun t0=>(if t0=true then(some true)else((impl_isDigit.f a0).bind fun t1=>(if t1=true then(some true)else(if a0=45 then(some true)else(some (a0==46))))))
theorem impl_isHost_1.calls (a0:Int) (r:Bool) (w:World) (H:impl_isHost_1.f a0=some r):
  Calls Tryz.prog 156 #[.int .u8 a0] w fun e w'=>e= .returned (.bool r)∧Drawn0 w w':=by
 unfold impl_isHost_1.f at H;replace H:=bS_ H;obtain⟨t0,A0,H⟩:=H;(try dsimp only at H);have C0:=Aside0.mk H;clear H;go_enter Tryz.func156,Tryz.ntmps156
 repeat' (first|(go_big_may;(first|((with_reducible refine gc_ 157 rfl ?_);refine gR 4 Tryz.func157 (impl_isLower.calls a0 t0 _ A0.out) ?_;rintro w' ⟨nd,rfl⟩)))|go_values|go_skip|go_big_skip|go_big_want|((first|(with_reducible refine gate_nog rfl ?_)|(fail_if_success with_reducible refine gate_any ?_));go_step)|go_upon|simp only[Bool.not_true,Bool.not_false,Bool.true_and,Bool.false_and,Bool.true_or,Bool.false_or]|dsimp only)
 (try simp only[Act.put,List.setIfInBounds_toArray,List.set_cons_zero,List.set_cons_succ]);have H:=C0.out;clear C0
 by_cases c0:t0=true
 ·subst c0;rw[if_pos rfl]at H;obtain rfl:=Option.some.inj H;go_wp2
  go_ret;exact⟨zr_,zd_⟩
 ·replace c0:=Bool.eq_false_iff.mpr c0;subst c0;rw[if_neg Bool.false_ne_true]at H;replace H:=bS_ H;obtain⟨t1,A1,H⟩:=H;(try dsimp only at H);have C1:=Aside0.mk H;clear H
  repeat' (first|(go_big_may;(first|(go_at_call 158;(with_reducible refine(impl_isDigit.calls a0 t1 _ A1.out).mono ?_);rintro e w' ⟨rfl,⟨nd,rfl⟩⟩)))|go_values|go_skip|go_big_skip|go_big_want|((first|(with_reducible refine gate_nog rfl ?_)|(fail_if_success with_reducible refine gate_any ?_));go_step)|go_upon|simp only[Bool.not_true,Bool.not_false,Bool.true_and,Bool.false_and,Bool.true_or,Bool.false_or]|dsimp only)
  (try simp only[Act.put,List.setIfInBounds_toArray,List.set_cons_zero,List.set_cons_succ]);have H:=C1.out;clear C1
  by_cases c1:t1=true
  ·subst c1;rw[if_pos rfl]at H;obtain rfl:=Option.some.inj H;go_wp2
   go_ret;exact⟨zr_,zd_⟩
  ·replace c1:=Bool.eq_false_iff.mpr c1;subst c1;rw[if_neg Bool.false_ne_true]at H
   by_cases c2:a0=45
   ·rw[if_pos c2]at H;obtain⟨f0,f1⟩:=bqT_ c2;clear c2;(first|rw[f0]|(simp only[i64_w,i32_w];rw[f0])|rw[f1]|(rw[f2];simp only[Bool.not_true,Bool.not_false])|skip);obtain rfl:=Option.some.inj H;go_wp2
    go_ret;exact⟨zr_,zd_⟩
   ·rw[if_neg c2]at H;obtain⟨f0,f1⟩:=bqF_ c2;(first|rw[f0]|(simp only[i64_w,i32_w];rw[f0])|rw[f1]|(rw[f2];simp only[Bool.not_true,Bool.not_false])|skip);obtain rfl:=Option.some.inj H;go_wp2
    go_ret;exact⟨zr_,zd_⟩
end Go.Proofs.YthmehmehoehlpaaGreatDoor.GFnExactRecText
