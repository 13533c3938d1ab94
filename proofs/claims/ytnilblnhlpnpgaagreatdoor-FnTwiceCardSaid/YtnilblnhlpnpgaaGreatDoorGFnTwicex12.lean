-- Printed by gen.py and its programs for this claim.
import Derived.Test.YtnilblnhlpnpgaaGreatDoorGFnTwicex0
import Derived.Test.YtnilblnhlpnpgaaGreatDoorGFnTwicex5
import Derived.Test.YtnilblnhlpnpgaaGreatDoorGFnTwicex6
import Derived.Test.YtnilblnhlpnpgaaGreatDoorGFnTwicex11
import Derived.Test.YtnilblnhlpnpgaaGreatDoorZFnTwice
namespace Go.Proofs.YtnilblnhlpnpgaaGreatDoor.GFnTwice
open Go.RowKit Go.Proofs.YtnilblnhlpnpgaaGreatDoorW.PrintWords Go.Proofs.YtnilblnhlpnpgaaGreatDoorW.PrintLast Go.Proofs.YtnilblnhlpnpgaaGreatDoorW.PrintMore Go.Proofs.YtnilblnhlpnpgaaGreatDoorW.Zs
set_option maxHeartbeats 40000000
set_option maxRecDepth 100000
attribute [local go_sem] max2_int min2_int max_two min_two max_three min_three max_four min_four
set_option linter.unusedVariables false
set_option linter.unusedSimpArgs false
mutual
def impl_Framing.j0:Nat→List (S82)→Bool→Bool→Bool→Bool→Option (Int×Int)
 |0,_,_,_,_,_=>none
 |k+1,x0,x1,x2,x8,x9=>if x9=true then((impl_lengthOf.f k x0).bind fun bt276=>(if bt276.2=true then(impl_Framing.j1 k x1 x2 x8 x9 bt276.1)else(some (4,0))))else(impl_Framing.j1 k x1 x2 x8 x9 0)
def impl_Framing.j1:Nat→Bool→Bool→Bool→Bool→Int→Option (Int×Int)
 |0,_,_,_,_,_=>none
 |k+1,x1,x2,x8,x9,x11=>if x2=true then(some (0,0))else(if x8=true then(some (2,0))else(if x9=true then(some (1,x11))else(if x1=true then(some (3,0))else(some (0,0)))))
end
def impl_Framing.f (k:Nat) (l0:List (S82)) (a1 a2:Bool):Option (Int×Int):=(impl_FieldsOk.f k l0).bind fun t268=>(if t268=true then((impl_hasField.f k l0 (⟨#[116,114,97,110,115,102,101,114,45,101,110,99,111,100,105,110,103]⟩:ByteArray)).bind fun t269=>((impl_hasField.f k l0 (⟨#[99,111,110,116,101,110,116,45,108,101,110,103,116,104]⟩:ByteArray)).bind fun t270=>(if t269=true then((impl_Words.f k l0 (⟨#[116,114,97,110,115,102,101,114,45,101,110,99,111,100,105,110,103]⟩:ByteArray)).bind fun t271=>(if t270=true then(some (4,0))else(if(t271.length:Int)=1 then(if 0<(t271.length:Int)then((impl_Fold.f (rdOf ByteArray.empty t271 0)).bind fun t275=>(if t275.toList=([99,104,117,110,107,101,100]:List UInt8)then(impl_Framing.j0 k l0 a1 a2 t269 t270)else(some (4,0))))else(none))else(some (4,0)))))else(impl_Framing.j0 k l0 a1 a2 t269 t270))))else(some (4,0)))
theorem impl_Framing.calls (k:Nat) (A0:Option Addr) (c0:Nat) (l0:List (S82)) (a1 a2:Bool) (r1 r2:Int) (w:World) (hG:Gl w) (hr0:Kd.C k82 w A0 l0.length l0) (hc0:l0.length≤c0) (h:impl_Framing.f k l0 a1 a2=some (r1,r2)):
  Calls Tryz.prog 84 #[.slice A0 l0.length c0,.bool a1,.bool a2] w fun e w'=>e= .returned (.tuple #[.int .i64 r1,.int .i64 r2])∧Below w.heap.size w w':=by
 have HG:=Aside0.mk hG;clear hG;have HR0:=Aside0.mk hr0;have HC0:=Aside0.mk hc0;clear hr0 hc0;have HB:=Aside0.mk (Below.refl w.heap.size w);have H:((impl_FieldsOk.f k l0).bind fun t268=>(if t268=true then((impl_hasField.f k l0 (⟨#[116,114,97,110,115,102,101,114,45,101,110,99,111,100,105,110,103]⟩:ByteArray)).bind fun t269=>((impl_hasField.f k l0 (⟨#[99,111,110,116,101,110,116,45,108,101,110,103,116,104]⟩:ByteArray)).bind fun t270=>(if t269=true then((impl_Words.f k l0 (⟨#[116,114,97,110,115,102,101,114,45,101,110,99,111,100,105,110,103]⟩:ByteArray)).bind fun t271=>(if t270=true then(some (4,0))else(if(t271.length:Int)=1 then(if 0<(t271.length:Int)then((impl_Fold.f (rdOf ByteArray.empty t271 0)).bind fun t275=>(if t275.toList=([99,104,117,110,107,101,100]:List UInt8)then(impl_Framing.j0 k l0 a1 a2 t269 t270)else(some (4,0))))else(none))else(some (4,0)))))else(impl_Framing.j0 k l0 a1 a2 t269 t270))))else(some (4,0))))=some (r1,r2):=h;clear h;replace H:=Option.bind_eq_some_iff.mp H;obtain⟨t268,A40,H⟩:=H;(try dsimp only at H);have A4:=Aside0.mk A40;clear A40;have HC5:=Aside0.mk H;clear H;go_enter Tryz.func84,Tryz.ntmps84
 go_upto_if 16 with(first|((with_reducible refine gate_callee (f:=62) rfl ?_);refine goesQ_ 15 Tryz.func62 #[.slice A0 l0.length c0] ?_;(with_reducible refine(impl_FieldsOk.calls k _ _ l0 t268 _ ?side1 ?side2 A4.out).mono ?_);(case side1=>repeat(first|exact HR0.out|(with_reducible refine Kd.C_alloc ?_ _)|(with_reducible refine Kd.C_drewN ?_ _)|(with_reducible refine Kd.C_drew ?_)));(case side2=>exact HC0.out);rintro e w6 ⟨rfl,hb⟩;refine⟨_,rfl,?_⟩;replace HB:=Aside0.mk (below_step zz0 hb);(try clear hb)))
 (try simp only[Act.put,List.setIfInBounds_toArray,List.set_cons_zero,List.set_cons_succ]);have H:=HC5.out;clear HC5
 by_cases c7:t268=true
 ·subst c7;rw[if_pos rfl]at H;replace H:=Option.bind_eq_some_iff.mp H;obtain⟨t269,A80,H⟩:=H;(try dsimp only at H);have A8:=Aside0.mk A80;clear A80;replace H:=Option.bind_eq_some_iff.mp H;obtain⟨t270,A90,H⟩:=H;(try dsimp only at H);have A9:=Aside0.mk A90;clear A90;have HC10:=Aside0.mk H;clear H;go_upto_if 21 with(first|((with_reducible refine gate_callee (f:=64) rfl ?_);refine goesQ_ 18 Tryz.func64 #[.slice A0 l0.length c0,.string (⟨#[116,114,97,110,115,102,101,114,45,101,110,99,111,100,105,110,103]⟩:ByteArray)] ?_;(with_reducible refine(impl_hasField.calls k _ _ l0 (⟨#[116,114,97,110,115,102,101,114,45,101,110,99,111,100,105,110,103]⟩:ByteArray) t269 _ ?side1 ?side2 A8.out).mono ?_);(case side1=>repeat(first|exact(Kd.C_below HR0.out HB.out)|(with_reducible refine Kd.C_alloc ?_ _)|(with_reducible refine Kd.C_drewN ?_ _)|(with_reducible refine Kd.C_drew ?_)));(case side2=>exact HC0.out);rintro e w11 ⟨rfl,hb⟩;refine⟨_,rfl,?_⟩;replace HB:=Aside0.mk (below_step zz0 hb);(try clear hb))|((with_reducible refine gate_callee (f:=64) rfl ?_);refine goesQ_ 20 Tryz.func64 #[.slice A0 l0.length c0,.string (⟨#[99,111,110,116,101,110,116,45,108,101,110,103,116,104]⟩:ByteArray)] ?_;(with_reducible refine(impl_hasField.calls k _ _ l0 (⟨#[99,111,110,116,101,110,116,45,108,101,110,103,116,104]⟩:ByteArray) t270 _ ?side1 ?side2 A9.out).mono ?_);(case side1=>repeat(first|exact(Kd.C_below HR0.out HB.out)|(with_reducible refine Kd.C_alloc ?_ _)|(with_reducible refine Kd.C_drewN ?_ _)|(with_reducible refine Kd.C_drew ?_)));(case side2=>exact HC0.out);rintro e w12 ⟨rfl,hb⟩;refine⟨_,rfl,?_⟩;replace HB:=Aside0.mk (below_step zz0 hb);(try clear hb)))
  (try simp only[Act.put,List.setIfInBounds_toArray,List.set_cons_zero,List.set_cons_succ]);go_cut [] (fun wc=> ∃(kq:Nat),Aside0 (impl_Framing.j0 kq l0 a1 a2 t269 t270=some (r1,r2))∧Aside0 (kq≤k)∧Aside0 (Below w.heap.size w wc))
  case first=>
   have H:=HC10.out;clear HC10
   by_cases c13:t269=true
   ·subst c13;rw[if_pos rfl]at H;replace H:=Option.bind_eq_some_iff.mp H;obtain⟨t271,A140,H⟩:=H;(try dsimp only at H);have A14:=Aside0.mk A140;clear A140;have HC15:=Aside0.mk H;clear H
    repeat' (first|(go_big_may;(first|((with_reducible refine gate_callee (f:=121) rfl ?_);refine goesQ_ 23 Tryz.func121 #[.slice A0 l0.length c0,.string (⟨#[116,114,97,110,115,102,101,114,45,101,110,99,111,100,105,110,103]⟩:ByteArray)] ?_;(with_reducible refine(impl_Words.calls k _ _ l0 (⟨#[116,114,97,110,115,102,101,114,45,101,110,99,111,100,105,110,103]⟩:ByteArray) t271 _ ?side1 ?side2 A14.out).mono ?_);(case side1=>repeat(first|exact(Kd.C_below HR0.out HB.out)|(with_reducible refine Kd.C_alloc ?_ _)|(with_reducible refine Kd.C_drewN ?_ _)|(with_reducible refine Kd.C_drew ?_)));(case side2=>exact HC0.out);rintro e w16 ⟨v272,rfl,ho0,hb⟩;refine⟨_,rfl,?_⟩;have HO273:=Aside0.mk (Kd.R_lower ho0 (below_size zz0));replace HB:=Aside0.mk (below_step zz0 hb);(try clear hb);(try clear ho0))))|go_values|go_skip|go_big_skip|go_big_want|((first|(with_reducible refine gate_nog rfl ?_)|(fail_if_success with_reducible refine gate_any ?_));go_step)|go_upon|simp only[Bool.not_true,Bool.not_false,Bool.true_and,Bool.false_and,Bool.true_or,Bool.false_or]|dsimp only)
    (try simp only[Act.put,List.setIfInBounds_toArray,List.set_cons_zero,List.set_cons_succ]);have H:=HC15.out;clear HC15
    by_cases c17:t270=true
    ·subst c17;rw[if_pos rfl]at H;simp only[Option.some.injEq,Prod.mk.injEq]at H;obtain⟨rfl,rfl⟩:=H;go_wp2
     go_ret2
     exact⟨zz1,zz0⟩
    ·replace c17:=Bool.eq_false_iff.mpr c17;subst c17;rw[if_neg Bool.false_ne_true]at H;have HC18:=Aside0.mk H;clear H;obtain⟨Ao19,co19,eo19⟩:=Kd.R_slice HO273.out;subst eo19
     repeat' (first|(go_big_may;(fail))|go_values|go_skip|go_big_skip|go_big_want|((first|(with_reducible refine gate_nog rfl ?_)|(fail_if_success with_reducible refine gate_any ?_));go_step)|go_upon|simp only[Bool.not_true,Bool.not_false,Bool.true_and,Bool.false_and,Bool.true_or,Bool.false_or]|dsimp only)
     have H:=HC18.out;clear HC18
     by_cases c20:(t271.length:Int)=1
     ·rw[if_pos c20]at H;have c20b0:((t271.length:Int)==1)=true:=beq_iff_eq.mpr c20;have c20b1:((t271.length:Int)!=1)=false:=bne_eq_false_iff_eq.mpr c20;clear c20;(first|rw[c20b0]|(simp only[i64_w,i32_w];rw[c20b0])|rw[c20b1]|(rw[c20b2];simp only[Bool.not_true,Bool.not_false])|skip)
      by_cases c21:0<(t271.length:Int)
      ·rw[if_pos c21]at H;have c21b0:decide (0<(t271.length:Int))=true:=decide_eq_true c21;have c21b1:decide (0<t271.length)=true:=decide_eq_true (by omega);clear c21;replace H:=Option.bind_eq_some_iff.mp H;obtain⟨t275,A220,H⟩:=H;(try dsimp only at H);have A22:=Aside0.mk A220;clear A220;have HC23:=Aside0.mk H;clear H;have p274:0≤(0:Int):=(by omega);have q274:0<(t271.length:Int):=of_decide_eq_true zz16;obtain⟨ad274,e274,hx274_0⟩:=Kd.at_string (Kd.R_reads' HO273.out).2.2 0 p274 q274;cases e274;have qi274:(0<t271.length)=True:=eq_true (by omega);(try rw[show((0:Int)).toNat=0 from rfl]at hx274_0);(try rw[Addr.add_zero']at hx274_0);replace p274:=eq_true p274;replace q274:=eq_true q274;go_upto_if 36 with(first|(go_at_call 57;(with_reducible refine(impl_Fold.calls (rdOf ByteArray.empty t271 0) t275 _ A22.out).mono ?_);rintro e w24 ⟨rfl,hb⟩;have n0_:=Aside0.mk (Kd.R_below (by(with_reducible repeat(first|apply Kd.R_alloc|apply Kd.R_drewN|apply Kd.R_drew));exact HO273.out) hb);have n1_:=Aside0.mk (below_step zz0 hb);clear HO273;clear HB;have HO273:=n0_;have HB:=n1_;clear n0_ n1_;(try clear hb);(try clear hb2);(try clear hk);(try clear hi)))
       (try simp only[Act.put,List.setIfInBounds_toArray,List.set_cons_zero,List.set_cons_succ]);have H:=HC23.out;clear HC23
       by_cases c25:t275.toList=([99,104,117,110,107,101,100]:List UInt8)
       ·rw[if_pos c25]at H;have c25b0:(t275.toList==([99,104,117,110,107,101,100]:List UInt8))=true:=beq_iff_eq.mpr c25;have c25b1:(t275.toList !=([99,104,117,110,107,101,100]:List UInt8))=false:=bne_eq_false_iff_eq.mpr c25;clear c25;(first|rw[c25b0]|(simp only[i64_w,i32_w];rw[c25b0])|rw[c25b1]|(rw[c25b2];simp only[Bool.not_true,Bool.not_false])|skip);have H':=Aside0.mk H;clear H;go_wp2
        go_meet
        case rel=>exact⟨_,H',⟨zz55⟩,⟨zz0⟩⟩
       ·rw[if_neg c25]at H;have c25b0:(t275.toList==([99,104,117,110,107,101,100]:List UInt8))=false:=beq_eq_false_iff_ne.mpr c25;have c25b1:(t275.toList !=([99,104,117,110,107,101,100]:List UInt8))=true:=bne_iff_ne.mpr c25;(first|rw[c25b0]|(simp only[i64_w,i32_w];rw[c25b0])|rw[c25b1]|(rw[c25b2];simp only[Bool.not_true,Bool.not_false])|skip);simp only[Option.some.injEq,Prod.mk.injEq]at H;obtain⟨rfl,rfl⟩:=H;go_wp2
        go_ret2
        exact⟨zz1,zz0⟩
      ·rw[if_neg c21]at H;exact absurd H (by simp)
     ·rw[if_neg c20]at H;have c20b0:((t271.length:Int)==1)=false:=beq_eq_false_iff_ne.mpr c20;have c20b1:((t271.length:Int)!=1)=true:=bne_iff_ne.mpr c20;(first|rw[c20b0]|(simp only[i64_w,i32_w];rw[c20b0])|rw[c20b1]|(rw[c20b2];simp only[Bool.not_true,Bool.not_false])|skip);simp only[Option.some.injEq,Prod.mk.injEq]at H;obtain⟨rfl,rfl⟩:=H;go_wp2
      go_ret2
      exact⟨zz1,zz0⟩
   ·replace c13:=Bool.eq_false_iff.mpr c13;subst c13;rw[if_neg Bool.false_ne_true]at H;have H':=Aside0.mk H;clear H;go_wp2
    go_meet
    case rel=>exact⟨_,H',⟨zz55⟩,⟨zz0⟩⟩
  case rest=>
   clear HC10;(try clear c1);(try clear c2);(try clear p2);(try clear q2);(try clear hx2);(try clear qi2);(try clear c6);(try clear c7);(try clear c8);(try clear c12);(try clear c13);(try clear c17);(try clear c20);(try clear c20b0);(try clear c20b1);(try clear c21);(try clear c21b0);(try clear c21b1);(try clear c25);(try clear c25b0);(try clear c25b1);(try clear hx274_0);(try clear p274);(try clear q274);obtain⟨kq,HA,HJ9,HB⟩:=hcut
   cases kq with
   |zero=>exact absurd HA.out (by simp[impl_Framing.j0])
   |succ kj9=>
    have H:=HA.out;clear HA;simp only[impl_Framing.j0]at H;have HC26:=Aside0.mk H;clear H;go_upto_if 37 with(fail)
    go_cut [11] (fun v11 wc=> ∃(kq:Nat) (x11_25:Int),v11= .int .i64 x11_25∧Aside0 (impl_Framing.j1 kq a1 a2 t269 t270 x11_25=some (r1,r2))∧Aside0 (kq≤kj9)∧Aside0 (Below w.heap.size w wc))
    case first=>
     have H:=HC26.out;clear HC26
     by_cases c27:t270=true
     ·subst c27;rw[if_pos rfl]at H;replace H:=Option.bind_eq_some_iff.mp H;obtain⟨⟨t276,t277⟩,A280,H⟩:=H;(try dsimp only at H);have A28:=Aside0.mk A280;clear A280;have HC29:=Aside0.mk H;clear H;go_upto_if 44 with(first|((with_reducible refine gate_callee (f:=122) rfl ?_);refine goesQ_ 40 Tryz.func122 #[.slice A0 l0.length c0] ?_;(with_reducible refine(impl_lengthOf.calls kj9 _ _ l0 t276 t277 _ ?side3 ?side1 ?side2 A28.out).mono ?_);(case side1=>repeat(first|exact(Kd.C_below HR0.out HB.out)|(with_reducible refine Kd.C_alloc ?_ _)|(with_reducible refine Kd.C_drewN ?_ _)|(with_reducible refine Kd.C_drew ?_)));(case side2=>exact HC0.out);(case side3=>exact Gl.below HG.out zz0);rintro e w30 ⟨rfl,hb⟩;refine⟨_,rfl,?_⟩;replace HB:=Aside0.mk (below_step zz0 hb);(try clear hb)))
      (try simp only[Act.put,List.setIfInBounds_toArray,List.set_cons_zero,List.set_cons_succ]);have H:=HC29.out;clear HC29
      by_cases c31:t277=true
      ·subst c31;rw[if_pos rfl]at H;have H':=Aside0.mk H;clear H;go_wp2
       go_meet
       case rel=>exact⟨_,(t276),zz4,H',⟨by have:=HJ9.out;first|omega|exact Nat.le_refl _⟩,⟨zz0⟩⟩
      ·replace c31:=Bool.eq_false_iff.mpr c31;subst c31;rw[if_neg Bool.false_ne_true]at H;simp only[Option.some.injEq,Prod.mk.injEq]at H;obtain⟨rfl,rfl⟩:=H;go_wp2
       go_ret2
       exact⟨zz1,zz0⟩
     ·replace c27:=Bool.eq_false_iff.mpr c27;subst c27;rw[if_neg Bool.false_ne_true]at H;have H':=Aside0.mk H;clear H;go_wp2
      go_meet
      case rel=>exact⟨_,(0),zz4,H',⟨by have:=HJ9.out;first|omega|exact Nat.le_refl _⟩,⟨zz0⟩⟩
    case rest=>
     clear HC26;(try clear c1);(try clear c2);(try clear p2);(try clear q2);(try clear hx2);(try clear qi2);(try clear c3);(try clear c6);(try clear c7);(try clear c8);(try clear c12);(try clear c13);(try clear c17);(try clear c20);(try clear c20b0);(try clear c20b1);(try clear c21);(try clear c21b0);(try clear c21b1);(try clear c25);(try clear c25b0);(try clear c25b1);(try clear c27);(try clear p27);(try clear q27);(try clear hx27);(try clear qi27);(try clear c31);(try clear hx274_0);(try clear p2);(try clear p274);(try clear q2);(try clear q274);obtain⟨kq,x11_25,rfl,HA,HJ25,HB⟩:=hcut
     cases kq with
     |zero=>exact absurd HA.out (by simp[impl_Framing.j1])
     |succ kj25=>
      have H:=HA.out;clear HA;simp only[impl_Framing.j1]at H
      by_cases c32:a2=true
      ·subst c32;rw[if_pos rfl]at H;simp only[Option.some.injEq,Prod.mk.injEq]at H;obtain⟨rfl,rfl⟩:=H;go_wp2
       go_ret2
       exact⟨zz1,zz0⟩
      ·replace c32:=Bool.eq_false_iff.mpr c32;subst c32;rw[if_neg Bool.false_ne_true]at H
       by_cases c33:t269=true
       ·subst c33;rw[if_pos rfl]at H;simp only[Option.some.injEq,Prod.mk.injEq]at H;obtain⟨rfl,rfl⟩:=H;go_wp2
        go_ret2
        exact⟨zz1,zz0⟩
       ·replace c33:=Bool.eq_false_iff.mpr c33;subst c33;rw[if_neg Bool.false_ne_true]at H
        by_cases c34:t270=true
        ·subst c34;rw[if_pos rfl]at H;simp only[Option.some.injEq,Prod.mk.injEq]at H;obtain⟨rfl,rfl⟩:=H;go_wp2
         go_ret2
         exact⟨zz1,zz0⟩
        ·replace c34:=Bool.eq_false_iff.mpr c34;subst c34;rw[if_neg Bool.false_ne_true]at H
         by_cases c35:a1=true
         ·subst c35;rw[if_pos rfl]at H;simp only[Option.some.injEq,Prod.mk.injEq]at H;obtain⟨rfl,rfl⟩:=H;go_wp2
          go_ret2
          exact⟨zz1,zz0⟩
         ·replace c35:=Bool.eq_false_iff.mpr c35;subst c35;rw[if_neg Bool.false_ne_true]at H;simp only[Option.some.injEq,Prod.mk.injEq]at H;obtain⟨rfl,rfl⟩:=H;go_wp2
          go_ret2
          exact⟨zz1,zz0⟩
 ·replace c7:=Bool.eq_false_iff.mpr c7;subst c7;rw[if_neg Bool.false_ne_true]at H;simp only[Option.some.injEq,Prod.mk.injEq]at H;obtain⟨rfl,rfl⟩:=H;go_wp2
  go_ret2
  exact⟨zz1,zz0⟩
def slices_Contains_string_string.f (l0:List ByteArray) (a1:ByteArray):Option Bool:=if l0.length≤9223372036854775807 then some (Lib.containsS l0 a1)else none
theorem slices_Contains_string_string.calls (A0:Option Addr) (c0:Nat) (l0:List ByteArray) (a1:ByteArray) (r:Bool) (w:World) (hr0:Kd.C Kd.string w A0 l0.length l0) (hc0:l0.length≤c0) (h:slices_Contains_string_string.f l0 a1=some r):
  Calls Tryz.prog 87 #[.slice A0 l0.length c0,.string a1] w fun e w'=>e= .returned (.bool r)∧ ∃n,w'=w.drewN n:=by
 unfold slices_Contains_string_string.f at h
 by_cases hs:l0.length≤9223372036854775807
 ·rw[if_pos hs]at h;obtain rfl:=Option.some.inj h
  rcases Nat.eq_zero_or_pos l0.length with h0|h0
  ·obtain rfl:=List.eq_nil_of_length_eq_zero h0;exact(Tryz.slices_Contains_string_empty A0 c0 a1 w).mono fun e w' ⟨he,hw⟩=>⟨he,0,hw.trans rfl⟩
  ·obtain⟨ad,rfl,hcell⟩:=Kd.at_string hr0 0 (by omega) (by omega);have hsp:=World.cell?_spot hcell;obtain⟨bk,o,sp⟩:=ad;obtain rfl:sp=none:=by simpa [Addr.add]using hsp
   have hc:=Tryz.slices_Contains_string bk o l0.length c0 l0 a1 w (Nat.le_refl _) hs (fun j hj=>by
    obtain⟨ad,had,hc⟩:=Kd.at_string hr0 (j:Int) (by omega) (by omega);obtain rfl:=Option.some.inj had
    rcases Nat.eq_zero_or_pos j with rfl|hj0
    ·simpa [Addr.add,rdOf,List.getD_eq_getElem?_getD]using hc
    ·have hne:j≠0:=by omega
     simpa [Addr.add,rdOf,List.getD_eq_getElem?_getD,hne]using hc)
   rw[List.take_length]at hc;exact hc.mono fun e w' ⟨he,hw⟩=>⟨he,0,hw.trans rfl⟩
 ·rw[if_neg hs]at h;cases h
def impl_readMsg_1.f (a0:ByteArray):Option (Bool):=(impl_framed.f).bind fun t278=>((impl_Fold.f a0).bind fun t281=>((slices_Contains_string_string.f t278 t281).bind fun t282=>(some (!t282))))
theorem impl_readMsg_1.calls (a0:ByteArray) (r:Bool) (w:World) (h:impl_readMsg_1.f a0=some r):
  Calls Tryz.prog 86 #[.string a0] w fun e w'=>e= .returned (.bool r)∧Below w.heap.size w w':=by
 have HB:=Aside0.mk (Below.refl w.heap.size w);have H:((impl_framed.f).bind fun t278=>((impl_Fold.f a0).bind fun t281=>((slices_Contains_string_string.f t278 t281).bind fun t282=>(some (!t282)))))=some r:=h;clear h;replace H:=Option.bind_eq_some_iff.mp H;obtain⟨t278,A20,H⟩:=H;(try dsimp only at H);have A2:=Aside0.mk A20;clear A20;replace H:=Option.bind_eq_some_iff.mp H;obtain⟨t281,A30,H⟩:=H;(try dsimp only at H);have A3:=Aside0.mk A30;clear A30;replace H:=Option.bind_eq_some_iff.mp H;obtain⟨t282,A40,H⟩:=H;(try dsimp only at H);have A4:=Aside0.mk A40;clear A40;obtain rfl:=Option.some.inj H;go_enter Tryz.func86,Tryz.ntmps86
 go_wp2_with (first|((with_reducible refine gate_callee (f:=63) rfl ?_);refine goesQ_ 3 Tryz.func63 #[] ?_;(with_reducible refine(impl_framed.calls t278 _ A2.out).mono ?_);rintro e w5 ⟨v279,rfl,ho0,hb⟩;refine⟨_,rfl,?_⟩;have HO280:=Aside0.mk (Kd.R_lower ho0 (below_size zz0));replace HB:=Aside0.mk (below_step zz0 hb);(try clear hb);(try clear ho0))|((with_reducible refine gate_callee (f:=57) rfl ?_);refine goesR_ 5 Tryz.func57 #[.string a0] (impl_Fold.calls a0 t281 _ A3.out) ?_;rintro w6 hb;replace HO280:=Aside0.mk (Kd.R_below (by(with_reducible repeat(first|apply Kd.R_alloc|apply Kd.R_drewN|apply Kd.R_drew));exact HO280.out) hb);replace HB:=Aside0.mk (below_step zz0 hb);(try clear hb);obtain⟨Ao7,co7,eo7⟩:=Kd.R_slice HO280.out;subst eo7)|((with_reducible refine gate_callee (f:=87) rfl ?_);refine goesQ_ 6 Tryz.func87 #[.slice Ao7 t278.length co7,.string t281] ?_;(with_reducible refine(slices_Contains_string_string.calls _ _ t278 t281 t282 _ ?side1 ?side2 A4.out).mono ?_);(case side1=>repeat(first|exact(Kd.R_reads' HO280.out).2.2|(with_reducible refine Kd.C_alloc ?_ _)|(with_reducible refine Kd.C_drewN ?_ _)|(with_reducible refine Kd.C_drew ?_)));(case side2=>exact(Kd.R_reads' HO280.out).2.1);rintro e w' ⟨rfl,⟨nd,rfl⟩⟩;refine⟨_,rfl,?_⟩))
 go_ret;exact⟨zz1,zz0⟩
def impl_kept__impl_readMsg_1.l0:Nat→List (S82)→List (S82)→Int→Int→Option ((List (S82)))
 |0,_,_,_,_=>none
 |k+1,x5,x11,x12,x13=>if x13<x12 then(if 0≤x13 then(if x13<(x11.length:Int)then((impl_readMsg_1.f ((rd_T82 x11 x13).f0)).bind fun t286=>(if t286=true then(if x5.length<4398046511104 then(impl_kept__impl_readMsg_1.l0 k (x5++ [(⟨(rd_T82 x11 x13).f0,(rd_T82 x11 x13).f1⟩:S82)]) x11 x12 (wrap64 (x13+1)))else(none))else(impl_kept__impl_readMsg_1.l0 k x5 x11 x12 (wrap64 (x13+1)))))else(none))else(none))else(some x5)
def impl_kept__impl_readMsg_1.f (k:Nat) (l0:List (S82)):Option ((List (S82))):=(impl_FieldsOk.f k l0).bind fun t283=>(if t283=true then(impl_kept__impl_readMsg_1.l0 k ([]:List (S82)) l0 (l0.length:Int) 0)else(some ([]:List (S82))))
theorem impl_kept__impl_readMsg_1.calls (k:Nat) (A0:Option Addr) (c0:Nat) (l0:List (S82)) (r:List (S82)) (w:World) (hr0:Kd.C k82 w A0 l0.length l0) (hc0:l0.length≤c0) (h:impl_kept__impl_readMsg_1.f k l0=some r):
  Calls Tryz.prog 85 #[.slice A0 l0.length c0,.func (.func 86) #[] #[]] w fun e w'=> ∃v0_:Value,e= .returned (v0_)∧Kd.R k82 82 w' w.heap.size (fun _=>True) v0_ r∧Below w.heap.size w w':=by
 have hu82:=Tryz.underlying82;have HR0:=Aside0.mk hr0;have HC0:=Aside0.mk hc0;clear hr0 hc0;have HB:=Aside0.mk (Below.refl w.heap.size w);have H:((impl_FieldsOk.f k l0).bind fun t283=>(if t283=true then(impl_kept__impl_readMsg_1.l0 k ([]:List (S82)) l0 (l0.length:Int) 0)else(some ([]:List (S82)))))=some r:=h;clear h;replace H:=Option.bind_eq_some_iff.mp H;obtain⟨t283,A20,H⟩:=H;(try dsimp only at H);have A2:=Aside0.mk A20;clear A20;have HC3:=Aside0.mk H;clear H;go_enter Tryz.func85,Tryz.ntmps85
 go_upto_if 10 with(first|((with_reducible refine gate_callee (f:=62) rfl ?_);refine goesQ_ 9 Tryz.func62 #[.slice A0 l0.length c0] ?_;(with_reducible refine(impl_FieldsOk.calls k _ _ l0 t283 _ ?side1 ?side2 A2.out).mono ?_);(case side1=>repeat(first|exact HR0.out|(with_reducible refine Kd.C_alloc ?_ _)|(with_reducible refine Kd.C_drewN ?_ _)|(with_reducible refine Kd.C_drew ?_)));(case side2=>exact HC0.out);rintro e w4 ⟨rfl,hb⟩;refine⟨_,rfl,?_⟩;replace HB:=Aside0.mk (below_step zz0 hb);(try clear hb)))
 (try simp only[Act.put,List.setIfInBounds_toArray,List.set_cons_zero,List.set_cons_succ]);have H:=HC3.out;clear HC3
 by_cases c5:t283=true
 ·subst c5;rw[if_pos rfl]at H;have H':=Aside0.mk H;clear H;go_wp2
  go_loopg [5,13] k (fun kq v5 v13 w'=> ∃(x5_1:List (S82)) (x13_1:Int),v13= .int .i64 x13_1∧Aside0 (impl_kept__impl_readMsg_1.l0 kq x5_1 l0 (l0.length:Int) x13_1=some r)∧Aside0 (kq≤k)∧Aside0 (Kd.R k82 82 w' w.heap.size (fun _=>True) v5 x5_1)∧Aside0 (Below w.heap.size w w'))
  case atStart=>exact⟨(([]:List (S82))),(0),zz4,H',⟨Nat.le_refl _⟩,⟨zz17⟩,⟨zz0⟩⟩
  case round=>
   clear H';(try clear p2);(try clear c5);obtain⟨x5_1,x13_1,rfl,HA,HK1,HO_5,HB⟩:=hrel
   cases gk with
   |zero=>exact absurd HA.out (by simp[impl_kept__impl_readMsg_1.l0])
   |succ k1=>
    have H:=HA.out;clear HA;simp only[impl_kept__impl_readMsg_1.l0]at H
    by_cases c6:x13_1<(l0.length:Int)
    ·rw[if_pos c6]at H;have c6b0:decide (x13_1<(l0.length:Int))=true:=decide_eq_true c6;clear c6;(first|rw[c6b0]|(simp only[i64_w,i32_w];rw[c6b0])|skip)
     by_cases c7:0≤x13_1
     ·rw[if_pos c7]at H;have c7b0:decide (0≤x13_1)=true:=decide_eq_true c7;clear c7
      by_cases c8:x13_1<(l0.length:Int)
      ·rw[if_pos c8]at H;have c8b0:decide (x13_1<(l0.length:Int))=true:=decide_eq_true c8;clear c8;replace H:=Option.bind_eq_some_iff.mp H;obtain⟨t286,A90,H⟩:=H;(try dsimp only at H);have A9:=Aside0.mk A90;clear A90;have HC10:=Aside0.mk H;clear H;have p284:0≤(x13_1:Int):=of_decide_eq_true zz16;have q284:x13_1<(l0.length:Int):=of_decide_eq_true zz16;obtain⟨ad284,e284,W284⟩:=at_T82 HR0.out x13_1 p284 q284;cases e284;obtain⟨hx284_0,hx284_1⟩:=El82.up HB.out W284;replace p284:=eq_true p284;replace q284:=eq_true q284;go_upto_if 20 with(first|((with_reducible refine gate_dst (N:=7) rfl ?_);refine boxP_ (N:=7) (cs:= #[.string (⟨#[]⟩:ByteArray),.string (⟨#[]⟩:ByteArray)]) (t:=82) ?_;intro gb285 hg w11 hbox hb;replace HO_5:=Aside0.mk (Kd.R_below (Kd.R_elderB zz108 gb285 (Nat.le_of_eq hg.symm)) hb);have BK285:=Aside0.mk (hbox);have GE285:=geb_ (w:=w) hg zz0;replace HB:=Aside0.mk (below_step zz0 hb);clear hb hbox hg;obtain⟨_,_,_,_⟩:=cells2_ BK285.out)|(go_at_call 86;(with_reducible refine(impl_readMsg_1.calls ((rd_T82 l0 x13_1).f0) t286 _ A9.out).mono ?_);rintro e w13 ⟨rfl,hb⟩;have n0_:=Aside0.mk (Kd.R_below (by(with_reducible repeat(first|apply Kd.R_alloc|apply Kd.R_drewN|apply Kd.R_drew));exact(Kd.R_mono (Kd.R_far (p:=⟨gb285,1,none⟩) (Kd.R_far (p:=⟨gb285,0,none⟩) (Kd.R_mono HO_5.out (fun k_ hk=>(⟨hk,hk.2⟩:_∧k_≠gb285))) (fun _ hk=>hk.2) (.string ((rd_T82 l0 x13_1).f0))) (fun _ hk=>hk.2) (.string ((rd_T82 l0 x13_1).f1))) (fun _ h_=>h_.1))) hb);have n1_:=Aside0.mk (blk_below (g:=gb285) (o:= .cells #[.string ((rd_T82 l0 x13_1).f0),.string ((rd_T82 l0 x13_1).f1)] 82 (0,0)) (by(with_reducible repeat(first|refine blk_drewN ?_ _|refine blk_drew ?_|refine blk_alloc ?_ _));refine blk_put (cs:= #[.string ((rd_T82 l0 x13_1).f0),.string (⟨#[]⟩:ByteArray)]) ?_ 1 _ rfl;(with_reducible repeat(first|refine blk_drewN ?_ _|refine blk_drew ?_|refine blk_alloc ?_ _));refine blk_put (cs:= #[.string (⟨#[]⟩:ByteArray),.string (⟨#[]⟩:ByteArray)]) ?_ 0 _ rfl;(with_reducible repeat(first|refine blk_drewN ?_ _|refine blk_drew ?_|refine blk_alloc ?_ _));exact BK285.out) hb);have n2_:=Aside0.mk (below_step zz99 hb);clear HO_5;clear BK285;clear HB;have HO_5:=n0_;have BK285:=n1_;have HB:=n2_;clear n0_ n1_ n2_;(try clear hb);(try clear hb2);(try clear hk);(try clear hi)))
       (try simp only[Act.put,List.setIfInBounds_toArray,List.set_cons_zero,List.set_cons_succ]);have H:=HC10.out;clear HC10
       by_cases c14:t286=true
       ·subst c14;rw[if_pos rfl]at H
        by_cases c15:x5_1.length<4398046511104
        ·rw[if_pos c15]at H;have LMc15:=Aside0.mk c15;clear c15;obtain⟨y287,hy287⟩: ∃y_:List (S82),y_=(x5_1++ [(⟨(rd_T82 l0 x13_1).f0,(rd_T82 l0 x13_1).f1⟩:S82)]):=⟨_,rfl⟩;replace H:(impl_kept__impl_readMsg_1.l0 k1 y287 l0 (l0.length:Int) (wrap64 (x13_1+1)))=some r:=by first|(rw[hy287];with_reducible exact H)|(have H2_:=(Option.bind_some _ _).symm.trans H;rw[hy287];with_reducible exact H2_)|(have H2_:=(Option.bind_some _ _).symm.trans H;with_reducible exact H2_)|with_reducible exact H|(rw[hy287];exact H)|exact H
         have Ny287:=Aside0.mk hy287;clear hy287;have H':=Aside0.mk H;clear H;obtain⟨_,_,_,_⟩:=cells2_ BK285.out;go_wp2_with (first|((with_reducible refine gate_builtin (b:= .append) (xs:= #[.tmp 21,.tmp 23]) rfl ?_);at_builtin;refine Kd.R_append k82 (w0:=w) w.heap.size rfl (.tmp 21) (.tmp 23) 32 82 (.agg #[(.string ⟨#[]⟩),(.string ⟨#[]⟩)]) 32 rfl Tryz.underlying32 info82 rfl (by decide) (by omega) u5 x5_1 (⟨(rd_T82 l0 x13_1).f0,(rd_T82 l0 x13_1).f1⟩:S82) [.string ((rd_T82 l0 x13_1).f0),.string ((rd_T82 l0 x13_1).f1)] (fun k_=>k_≠gb285) (fun _=>False) rfl rfl ?aP (fun _ hk=>hk.elim) ?aF ?aO ?aB ?aS ?aL ?_;(case aP=>exact k82_mkM _ _ _ (⟨(rd_T82 l0 x13_1).f0,(rd_T82 l0 x13_1).f1⟩:S82));(case aB=>exact zz99);(case aF=>exact(fun k_ hk=>Kd.freshB (g:=gb285) (o:= .cells #[.string ((rd_T82 l0 x13_1).f0),.string ((rd_T82 l0 x13_1).f1)] 82 (0,0)) (by(with_reducible repeat(first|refine blk_drewN ?_ _|refine blk_drew ?_|refine blk_alloc ?_ _));exact BK285.out) k_ hk));(case aO=>exact(by(with_reducible repeat(first|apply Kd.R_alloc|apply Kd.R_drewN|apply Kd.R_drew));exact Kd.R_mono HO_5.out (fun _ hk=>hk.2)));(case aS=>exact(below_size zz99));(case aL=>have:=LMc15.out;omega);intro v288 w17 ho hb hg hat;rw[←Ny287.out]at ho;replace BK285:=Aside0.mk (blk_grown (g:=gb285) (o:= .cells #[.string ((rd_T82 l0 x13_1).f0),.string ((rd_T82 l0 x13_1).f1)] 82 (0,0)) (by(with_reducible repeat(first|refine blk_drewN ?_ _|refine blk_drew ?_|refine blk_alloc ?_ _));exact BK285.out) hg (Kd.R_away HO_5.out (fun _ hk=>hk.2)));replace HB:=Aside0.mk (hb);have HO289:=Aside0.mk (ho);clear HO_5;clear ho hb hg hat))
         go_roundg k1
         (case measure=>have:=HK1.out;omega);case rel=>exact⟨(y287),(wrap64 (x13_1+1)),zz4,H',⟨zz119⟩,⟨by(with_reducible repeat(first|apply Kd.R_alloc|apply Kd.R_drewN|apply Kd.R_drew));exact Kd.R_mono HO289.out (fun _ hk=>trivial)⟩,⟨zz99⟩⟩
        ·rw[if_neg c15]at H;exact absurd H (by simp)
       ·replace c14:=Bool.eq_false_iff.mpr c14;subst c14;rw[if_neg Bool.false_ne_true]at H;have H':=Aside0.mk H;clear H;go_wp2
        go_roundg k1
        (case measure=>have:=HK1.out;omega);case rel=>exact⟨(x5_1),(wrap64 (x13_1+1)),zz4,H',⟨zz119⟩,⟨by(with_reducible repeat(first|apply Kd.R_alloc|apply Kd.R_drewN|apply Kd.R_drew));exact Kd.R_mono HO_5.out (fun _ hk=>trivial)⟩,⟨zz99⟩⟩
      ·rw[if_neg c8]at H;exact absurd H (by simp)
     ·rw[if_neg c7]at H;exact absurd H (by simp)
    ·rw[if_neg c6]at H;have c6b0:decide (x13_1<(l0.length:Int))=false:=decide_eq_false c6;clear c6;(first|rw[c6b0]|(simp only[i64_w,i32_w];rw[c6b0])|skip);obtain rfl:=Option.some.inj H;go_wp2
     go_ret;exact⟨_,zz1,zz108,zz0⟩
 ·replace c5:=Bool.eq_false_iff.mpr c5;subst c5;rw[if_neg Bool.false_ne_true]at H;obtain rfl:=Option.some.inj H;go_wp2
  go_ret;exact⟨_,zz1,zz17,zz0⟩
end Go.Proofs.YtnilblnhlpnpgaaGreatDoor.GFnTwice
