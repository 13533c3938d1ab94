-- Printed by gen.py and its programs for this claim.
import Derived.Test.YteojcbbifacpnaaGreatDoorGFnExactReadLinex0
import Derived.Test.YteojcbbifacpnaaGreatDoorGFnExactReadLinex3
import Derived.Test.YteojcbbifacpnaaGreatDoorZFnExactReadLine
namespace Go.Proofs.YteojcbbifacpnaaGreatDoor.GFnExactReadLine
open Go.RowKit Go.Proofs.YteojcbbifacpnaaGreatDoorW.PrintWords Go.Proofs.YteojcbbifacpnaaGreatDoorW.PrintLast Go.Proofs.YteojcbbifacpnaaGreatDoorW.PrintMore Go.Proofs.YteojcbbifacpnaaGreatDoorW.Zs
set_option maxHeartbeats 40000000
set_option maxRecDepth 100000
attribute [local go_sem] zL qL xN zN qK xK xL jL
set_option linter.unusedVariables false
set_option linter.unusedSimpArgs false
mutual
def kC.l0:Nat→ByteArray→List Int→Int→Option (ByteArray)
 |0,_,_,_=>none
 |k+1,x0,x3,x4=>if x4<(x0.size:Int)then(if 0≤x4 then(if(bt x0 x4)=37 then(kC.j1 k x0 x3 x4 (decide ((wrap64 (x4+2))≥(x0.size:Int))))else(kC.j1 k x0 x3 x4 true))else(none))else(some (strOfNums x3))
def kC.j1:Nat→ByteArray→List Int→Int→Bool→Option (ByteArray)
 |0,_,_,_,_=>none
 |k+1,x0,x3,x4,x23=>if x23=true then(if 0≤x4 then(if x4<(x0.size:Int)then(if x3.length<140737488355328 then(kC.l0 k x0 (x3++ [bt x0 x4]) (wrap64 (x4+1)))else(none))else(none))else(none))else(if 0≤(wrap64 (x4+1))then(if(wrap64 (x4+1))≤(wrap64 (x4+3))then(if(wrap64 (x4+3))≤(x0.size:Int)then((qH.f k (x0.extract ((wrap64 (x4+1)):Int).toNat ((wrap64 (x4+3)):Int).toNat)).bind fun bt139=>(if bt139.2=true then((kW.f k ((bt139.1)%256)).bind fun t141=>(if t141=true then(if x3.length<140737488355328 then(kC.l0 k x0 (x3++ [(bt139.1)%256]) (wrap64 ((wrap64 (x4+2))+1)))else(none))else(if(wrap64 (x4+1))<(x0.size:Int)then((vR.f (bt x0 (wrap64 (x4+1)))).bind fun t145=>(if 0≤(wrap64 (x4+2))then(if(wrap64 (x4+2))<(x0.size:Int)then((vR.f (bt x0 (wrap64 (x4+2)))).bind fun t146=>((some (([37,t145,t146]:List Int):List Int)).bind fun y147=>(if x3.length+y147.length<140737488355328 then(kC.l0 k x0 (x3++y147) (wrap64 ((wrap64 (x4+2))+1)))else(none))))else(none))else(none)))else(none))))else(if 0≤x4 then(if x4<(x0.size:Int)then(if x3.length<140737488355328 then(kC.l0 k x0 (x3++ [bt x0 x4]) (wrap64 (x4+1)))else(none))else(none))else(none))))else(none))else(none))else(none))
end
def kC.f (k:Nat) (a0:ByteArray):Option (ByteArray):=kC.l0 k a0 ([]:List Int) 0
def kC.T8:Bool×List (List Nat×List Nat):=(true,[([],[]),([],[]),([],[]),([2],[2]),([1,3],[1,3]),([4],[4]),([],[]),([],[]),([7],[7]),([6,8],[6,8]),([9,5],[9]),([5,10],[5,10]),([0,11,10],[0,11]),([12,12,0,1,2,3,4,5,6,7,8,9,10,11,12],[0,12])])
def kC.B8:List Nat:= [0,0,0,4,14,30,0,0,128,448,1022,2046,4095,8191]
theorem kC.tab8:kU .any (kX Tryz.f156 8)=kC.T8:=by kernel_rfl
theorem kC.bits8:kP kC.T8.2 kC.B8=true:=by kernel_rfl
theorem kC.calls (k:Nat) (a0 r:ByteArray) (w:World) (h:kC.f k a0=some r):
  Calls Tryz.prog 156 #[.string a0] w fun e w'=>e= .returned (.string r)∧Below w.heap.size w w':=by
 have HB:=am_ (Below.refl w.heap.size w);have H:(kC.l0 k a0 ([]:List Int) 0)=some r:=h;clear h;have H':=am_ H;clear H;go_enter Tryz.func156,Tryz.ntmps156
 go_wp2
 go_loopg [3,4] k (fun kq v3 v4 w'=> ∃(x3_1:List Int) (x4_1:Int),v4= .int .i64 x4_1∧wA (kC.l0 kq a0 x3_1 x4_1=some r)∧wA (kq≤k)∧wA (Kd.R (Kd.int .u8) 5 w' w.heap.size (fun _=>True) v3 x3_1)∧wA (Below w.heap.size w w'))
 case atStart=>exact⟨(([]:List Int)),(0),vB,H',⟨Nat.le_refl _⟩,⟨zz44⟩,⟨zz0⟩⟩
 case round=>
  clear H';(try clear c1);obtain⟨x3_1,x4_1,rfl,HA,HK1,HO_3,HB⟩:=hrel
  cases gk with
  |zero=>exact absurd HA.out (by simp[kC.l0])
  |succ k1=>
   have H:=HA.out;clear HA;simp only[kC.l0]at H
   by_cases c2:x4_1<(a0.size:Int)
   ·rw[if_pos c2]at H;have c2b0:=dt_ c2;clear c2;have HC3:=am_ H;clear H;go_upto_region 5 with(fail)
    go_cut [23] (fun v23 wc=> ∃(kq:Nat) (x23_2:Bool),v23= .bool x23_2∧wA (kC.j1 kq a0 x3_1 x4_1 x23_2=some r)∧wA (kq≤k1)∧wA (Kd.R (Kd.int .u8) 5 wc w.heap.size (fun _=>True) u3 x3_1)∧wA (Below w.heap.size w wc))
    case first=>
     have H:=HC3.out;clear HC3
     by_cases c4:0≤x4_1
     ·rw[if_pos c4]at H;have c4b0:=dt_ c4;clear c4;(first|rw[c4b0]|(simp only[yC,qD];rw[c4b0])|skip);have HC6:=am_ H;clear H;have p5:0≤(x4_1:Int):=od_ zz5;have q5:x4_1<(a0.size:Int):=od_ zz5;have hx5:=wP a0 x4_1;replace p5:=eq_true p5;replace q5:=eq_true q5
      repeat' (first|(go_big_may;(fail))|go_values|go_skip|go_big_skip|go_big_want|((first|(with_reducible refine wE rfl ?_)|(fail_if_success with_reducible refine yE ?_));go_step)|go_upon|simp only[Bool.not_true,Bool.not_false,Bool.true_and,Bool.false_and,Bool.true_or,Bool.false_or]|dsimp only)
      have H:=HC6.out;clear HC6
      by_cases c7:(bt a0 x4_1)=37
      ·rw[if_pos c7]at H;have c7b0:((bt a0 x4_1)==37)=true:=beq_iff_eq.mpr c7;have c7b1:((bt a0 x4_1)!=37)=false:=bne_eq_false_iff_eq.mpr c7;clear c7;(first|rw[c7b0]|(simp only[yC,qD];rw[c7b0])|rw[c7b1]|(rw[c7b2];simp only[Bool.not_true,Bool.not_false])|skip);have H':=am_ H;clear H;go_wp2
       go_meet
       case rel=>exact⟨_,(decide ((wrap64 (x4_1+2))≥(a0.size:Int))),vB,H',⟨eQ0⟩,⟨xX⟩,⟨zz0⟩⟩
      ·rw[if_neg c7]at H;have c7b0:((bt a0 x4_1)==37)=false:=beq_eq_false_iff_ne.mpr c7;have c7b1:((bt a0 x4_1)!=37)=true:=bne_iff_ne.mpr c7;(first|rw[c7b0]|(simp only[yC,qD];rw[c7b0])|rw[c7b1]|(rw[c7b2];simp only[Bool.not_true,Bool.not_false])|skip);have H':=am_ H;clear H;go_wp2
       go_meet
       case rel=>exact⟨_,(true),vB,H',⟨eQ0⟩,⟨xX⟩,⟨zz0⟩⟩
     ·rw[if_neg c4]at H;exact absurd H (by simp)
    case rest=>
     clear HC3;(try clear c1);(try clear c2);(try clear c2b0);(try clear p2);(try clear c4);(try clear c4b0);(try clear p5);(try clear q5);(try clear hx5);(try clear p6);(try clear c7);(try clear c7b0);(try clear c7b1);(try clear p5);(try clear q5);obtain⟨kq,x23_2,rfl,HA,HJ2,HO_3,HB⟩:=hcut
     cases kq with
     |zero=>exact absurd HA.out (by simp[kC.j1])
     |succ kj2=>
      have H:=HA.out;clear HA;simp only[kC.j1]at H
      by_cases c8:x23_2=true
      ·subst c8;rw[if_pos rfl]at H
       by_cases c9:0≤x4_1
       ·rw[if_pos c9]at H;have c9b0:=dt_ c9;clear c9
        by_cases c10:x4_1<(a0.size:Int)
        ·rw[if_pos c10]at H;have c10b0:=dt_ c10;clear c10
         by_cases c12:x3_1.length<140737488355328
         ·rw[if_pos c12]at H;have LMc12:=am_ c12;clear c12;obtain⟨y136,hy136⟩: ∃y_:List Int,y_=(x3_1++ [bt a0 x4_1]):=⟨_,rfl⟩;replace H:(kC.l0 kj2 a0 y136 (wrap64 (x4_1+1)))=some r:=by first|(rw[hy136];with_reducible exact H)|(have H2_:=(Option.bind_some _ _).symm.trans H;rw[hy136];with_reducible exact H2_)|(have H2_:=(Option.bind_some _ _).symm.trans H;with_reducible exact H2_)|with_reducible exact H|(rw[hy136];exact H)|exact H
          have Ny136:=am_ hy136;clear hy136;have H':=am_ H;clear H;have p11:0≤(x4_1:Int):=od_ zz5;have q11:x4_1<(a0.size:Int):=od_ zz5;have hx11:=wP a0 x4_1;replace p11:=eq_true p11;replace q11:=eq_true q11;go_wp2_with (first|((with_reducible refine zO (b:= .append) (xs:= #[.tmp 24,.tmp 28]) rfl ?_);(try(refine xV (by rfl) ?_;dsimp only));at_builtin;refine Kd.R_append (Kd.int .u8) (w0:=w) w.heap.size rfl (.tmp 24) (.tmp 28) 63 5 (.int .u8 0) 1 rfl Tryz.underlying63 info5 rfl (by decide) (by omega) u3 x3_1 (bt a0 x4_1) [.int .u8 (bt a0 x4_1)] (fun _=>True) (fun _=>False) rfl rfl ?aP (fun _ hk=>hk.elim) ?aF ?aO ?aB ?aS ?aL ?_;(case aP=>exact rfl);(case aB=>exact zz0);(case aF=>exact(fun _ _=>trivial));(case aO=>exact xX);(case aS=>exact(zH zz0));(case aL=>have:=LMc12.out;omega);intro v137 w13 ho hb hg hat;rw[←Ny136.out]at ho;replace HB:=am_ (hb);have HO138:=am_ (ho);clear HO_3;clear ho hb hg hat))
          go_roundg kj2
          (case measure=>have:=HK1.out;have:=HJ2.out;omega);case rel=>exact⟨(y136),(wrap64 (x4_1+1)),vB,H',⟨dY1⟩,⟨by(with_reducible repeat(first|apply Kd.R_alloc|apply Kd.R_drewN|apply Kd.R_drew));exact HO138.out⟩,⟨zz0⟩⟩
         ·rw[if_neg c12]at H;exact absurd H (by simp)
        ·rw[if_neg c10]at H;exact absurd H (by simp)
       ·rw[if_neg c9]at H;exact absurd H (by simp)
      ·replace c8:=bf_ c8;subst c8;rw[if_neg ft_]at H;obtain⟨ji14,hji14⟩: ∃j_:Int,(wrap64 (x4_1+1))=j_:=⟨_,rfl⟩;replace H:(if 0≤(ji14)then(if(ji14)≤(wrap64 (x4_1+3))then(if(wrap64 (x4_1+3))≤(a0.size:Int)then((qH.f kj2 (a0.extract ((ji14):Int).toNat ((wrap64 (x4_1+3)):Int).toNat)).bind fun bt139=>(if bt139.2=true then((kW.f kj2 ((bt139.1)%256)).bind fun t141=>(if t141=true then(if x3_1.length<140737488355328 then(kC.l0 kj2 a0 (x3_1++ [(bt139.1)%256]) (wrap64 ((wrap64 (x4_1+2))+1)))else(none))else(if(ji14)<(a0.size:Int)then((vR.f (bt a0 (ji14))).bind fun t145=>(if 0≤(wrap64 (x4_1+2))then(if(wrap64 (x4_1+2))<(a0.size:Int)then((vR.f (bt a0 (wrap64 (x4_1+2)))).bind fun t146=>((some (([37,t145,t146]:List Int):List Int)).bind fun y147=>(if x3_1.length+y147.length<140737488355328 then(kC.l0 kj2 a0 (x3_1++y147) (wrap64 ((wrap64 (x4_1+2))+1)))else(none))))else(none))else(none)))else(none))))else(if 0≤x4_1 then(if x4_1<(a0.size:Int)then(if x3_1.length<140737488355328 then(kC.l0 kj2 a0 (x3_1++ [bt a0 x4_1]) ji14)else(none))else(none))else(none))))else(none))else(none))else(none))=some r:=by first|(rw[hji14]at H;exact H)|(simp only[hji14]at H ⊢;exact H)
       have hji14w:(IntKind.i64.wrap (x4_1+1))=ji14:=(yC _).trans hji14
       by_cases c15:0≤(ji14)
       ·rw[if_pos c15]at H;have c15b0:=eq_true c15;have c15b1:=dt_ c15;clear c15
        by_cases c16:(ji14)≤(wrap64 (x4_1+3))
        ·rw[if_pos c16]at H;have c16b0:=eq_true c16;have c16b1:=dt_ c16
         by_cases c17:(wrap64 (x4_1+3))≤(a0.size:Int)
         ·rw[if_pos c17]at H;have c17b0:=eq_true c17;have c17b1:=dt_ c17;replace H:=be_ H;obtain⟨⟨t139,t140⟩,A180,H⟩:=H;(try dsimp only at H);have A18:=am_ A180;clear A180;have HC19:=am_ H;clear H;go_upto_if 53 with(first|((with_reducible refine zB (f:=175) rfl ?_);refine cY1 (some 37) rfl rfl Tryz.func175 (by kernel_rfl) rfl #[.string (a0.extract ((ji14):Int).toNat ((wrap64 (x4_1+3)):Int).toNat)] rfl zz110 ?_;(with_reducible refine(qH.calls kj2 (a0.extract ((ji14):Int).toNat ((wrap64 (x4_1+3)):Int).toNat) t139 t140 _ A18.out).mono ?_);rintro e w' ⟨rfl,⟨nd,rfl⟩⟩;refine⟨_,rfl,?_⟩))
          (try simp only[Act.put,List.setIfInBounds_toArray,List.set_cons_zero,List.set_cons_succ]);(try(rw[jJ wc];generalize hq_:World.drewN wc _=wc;have n0_:wA (Kd.R (Kd.int .u8) 5 wc w.heap.size (fun _=>True) u3 x3_1):=⟨by rw[←hq_];exact xX⟩;have n1_:wA (Below w.heap.size w wc):=⟨cQ1⟩;clear HO_3 HB hq_;have HO_3:=n0_;have HB:=n1_;clear n0_ n1_));have H:=HC19.out;clear HC19
          by_cases c20:t140=true
          ·subst c20;rw[if_pos rfl]at H;replace H:=be_ H;obtain⟨t141,A210,H⟩:=H;(try dsimp only at H);have A21:=am_ A210;clear A210;have HC22:=am_ H;clear H;go_upto_if 62 with(first|((with_reducible refine zB (f:=176) rfl ?_);refine jG 65 Tryz.func176 #[.int .u8 ((t139)%256)] (kW.calls kj2 ((t139)%256) t141 _ A21.out) ?_;rintro w' ⟨nd,rfl⟩))
           (try simp only[Act.put,List.setIfInBounds_toArray,List.set_cons_zero,List.set_cons_succ]);(try(rw[jJ wc];generalize hq_:World.drewN wc _=wc;have n0_:wA (Kd.R (Kd.int .u8) 5 wc w.heap.size (fun _=>True) u3 x3_1):=⟨by rw[←hq_];exact xX⟩;have n1_:wA (Below w.heap.size w wc):=⟨cQ1⟩;clear HO_3 HB hq_;have HO_3:=n0_;have HB:=n1_;clear n0_ n1_));have H:=HC22.out;clear HC22
           by_cases c23:t141=true
           ·subst c23;rw[if_pos rfl]at H
            by_cases c24:x3_1.length<140737488355328
            ·rw[if_pos c24]at H;have LMc24:=am_ c24;clear c24;obtain⟨y142,hy142⟩: ∃y_:List Int,y_=(x3_1++ [(t139)%256]):=⟨_,rfl⟩;replace H:(kC.l0 kj2 a0 y142 (wrap64 ((wrap64 (x4_1+2))+1)))=some r:=by first|(rw[hy142];with_reducible exact H)|(have H2_:=(Option.bind_some _ _).symm.trans H;rw[hy142];with_reducible exact H2_)|(have H2_:=(Option.bind_some _ _).symm.trans H;with_reducible exact H2_)|with_reducible exact H|(rw[hy142];exact H)|exact H
             have Ny142:=am_ hy142;clear hy142;have H':=am_ H;clear H;go_wp2_with (first|((with_reducible refine zO (b:= .append) (xs:= #[.tmp 66,.tmp 69]) rfl ?_);(try(refine xV (by rfl) ?_;dsimp only));at_builtin;refine Kd.R_append (Kd.int .u8) (w0:=w) w.heap.size rfl (.tmp 66) (.tmp 69) 63 5 (.int .u8 0) 1 rfl Tryz.underlying63 info5 rfl (by decide) (by omega) u3 x3_1 ((t139)%256) [.int .u8 ((t139)%256)] (fun _=>True) (fun _=>False) rfl rfl ?aP (fun _ hk=>hk.elim) ?aF ?aO ?aB ?aS ?aL ?_;(case aP=>exact rfl);(case aB=>exact zz0);(case aF=>exact(fun _ _=>trivial));(case aO=>exact xX);(case aS=>exact(zH zz0));(case aL=>have:=LMc24.out;omega);intro v143 w25 ho hb hg hat;rw[←Ny142.out]at ho;replace HB:=am_ (hb);have HO144:=am_ (ho);clear HO_3;clear ho hb hg hat))
             go_roundg kj2
             (case measure=>have:=HK1.out;have:=HJ2.out;omega);case rel=>exact⟨(y142),(wrap64 ((wrap64 (x4_1+2))+1)),vB,H',⟨dY1⟩,⟨by(with_reducible repeat(first|apply Kd.R_alloc|apply Kd.R_drewN|apply Kd.R_drew));exact HO144.out⟩,⟨zz0⟩⟩
            ·rw[if_neg c24]at H;exact absurd H (by simp)
           ·replace c23:=bf_ c23;subst c23;rw[if_neg ft_]at H
            by_cases c26:(ji14)<(a0.size:Int)
            ·rw[if_pos c26]at H;have c26b0:=dt_ c26;clear c26;(first|rw[c26b0]|(simp only[yC,qD];rw[c26b0])|skip);replace H:=be_ H;obtain⟨t145,A280,H⟩:=H;(try dsimp only at H);have A28:=am_ A280;clear A280;obtain⟨ji29,hji29⟩: ∃j_:Int,(wrap64 (x4_1+2))=j_:=⟨_,rfl⟩;replace H:(if 0≤(ji29)then(if(ji29)<(a0.size:Int)then((vR.f (bt a0 (ji29))).bind fun t146=>((some (([37,t145,t146]:List Int):List Int)).bind fun y147=>(if x3_1.length+y147.length<140737488355328 then(kC.l0 kj2 a0 (x3_1++y147) (wrap64 ((ji29)+1)))else(none))))else(none))else(none))=some r:=by first|(rw[hji29]at H;exact H)|(simp only[hji29]at H ⊢;exact H)
             (try rw[hji29]at A28);have hji29w:(IntKind.i64.wrap (x4_1+2))=ji29:=(yC _).trans hji29
             by_cases c30:0≤(ji29)
             ·rw[if_pos c30]at H;have c30b0:=dt_ c30;clear c30
              by_cases c31:(ji29)<(a0.size:Int)
              ·rw[if_pos c31]at H;have c31b0:=dt_ c31;clear c31;replace H:=be_ H;obtain⟨t146,A330,H⟩:=H;(try dsimp only at H);have A33:=am_ A330;clear A330;obtain⟨y147,hy147⟩: ∃y_:List Int,y_=(([37,t145,t146]:List Int)):=⟨_,rfl⟩;replace H:(if x3_1.length+y147.length<140737488355328 then(kC.l0 kj2 a0 (x3_1++y147) (wrap64 ((ji29)+1)))else(none))=some r:=by first|(rw[hy147];with_reducible exact H)|(have H2_:=(Option.bind_some _ _).symm.trans H;rw[hy147];with_reducible exact H2_)|(have H2_:=(Option.bind_some _ _).symm.trans H;with_reducible exact H2_)|with_reducible exact H|(rw[hy147];exact H)|exact H
               have Ny147:=am_ hy147;clear hy147
               by_cases c34:x3_1.length+y147.length<140737488355328
               ·rw[if_pos c34]at H;have LMc34:=am_ c34;clear c34;obtain⟨y150,hy150⟩: ∃y_:List Int,y_=(x3_1++y147):=⟨_,rfl⟩;replace H:(kC.l0 kj2 a0 y150 (wrap64 ((ji29)+1)))=some r:=by first|(rw[hy150];with_reducible exact H)|(have H2_:=(Option.bind_some _ _).symm.trans H;rw[hy150];with_reducible exact H2_)|(have H2_:=(Option.bind_some _ _).symm.trans H;with_reducible exact H2_)|with_reducible exact H|(rw[hy150];exact H)|exact H
                have Ny150:=am_ hy150;clear hy150;have H':=am_ H;clear H;(try go_wp2);replace HO_3:=am_ (Kd.R_drew HO_3.out);replace HB:=am_ (wB HB.out);have p27:0≤((ji14):Int):=od_ zz5;have q27:(ji14)<(a0.size:Int):=od_ zz5;have hx27:=wP a0 (ji14);replace p27:=eq_true p27;replace q27:=eq_true q27;have p32:0≤((ji29):Int):=od_ zz5;have q32:(ji29)<(a0.size:Int):=od_ zz5;have hx32:=wP a0 (ji29);replace p32:=eq_true p32;replace q32:=eq_true q32;refine st_ (n:=14) (S:=fun w'=>True) (ds:= []) trivial (fun hHeld=>?_);refine vF kC.tab8 kC.bits8 (fun HT_ HW_=>?_);generalize wc.drew=w35 at HO_3 HB hHeld ⊢;refine pz 0 40 ?_;refine pz 1 41 ?_;refine pz 2 42 ?_;refine pz 3 43 ?_;refine pz 6 46 ?_;refine pz 7 47 ?_;refine pz 8 48 ?_;refine tk (i:=4) (N:=some 44) (v:=?_) (a':=?_) rfl rfl (xW HT_.out HW_.out (by kernel_rfl)) (Or.inl ⟨by kernel_rfl,?_⟩) hHeld ?_ ?_;rotate_left
                ·intro w' _;go_simp;with_reducible rfl
                rotate_left
                ·simp only[Act.put,List.setIfInBounds_toArray,List.set_cons_zero,List.set_cons_succ,yC,qD];rfl
                refine tk (i:=9) (N:=some 49) (v:=?_) (a':=?_) rfl rfl (xW HT_.out HW_.out (by kernel_rfl)) (Or.inl ⟨by kernel_rfl,?_⟩) hHeld ?_ ?_;rotate_left
                ·intro w' _;go_simp;with_reducible rfl
                rotate_left
                ·simp only[Act.put,List.setIfInBounds_toArray,List.set_cons_zero,List.set_cons_succ,yC,qD];rfl
                refine oz 5 45 (fun K hK=>?_);refine dW9 Tryz.func177 (by kernel_rfl) rfl #[.int .u8 (bt a0 (ji14))] (by kernel_rfl) rfl rfl zz110 ?_;(with_reducible refine(vR.calls (bt a0 (ji14)) t145 _ A28.out).mono ?_);rintro e w' ⟨rfl,⟨nd,rfl⟩⟩;refine⟨_,rfl,?_⟩;refine hK.out _ _ trivial (fun hHeld=>?_);clear hK K;refine nz ?_;refine oz 10 50 (fun K hK=>?_);refine dW9 Tryz.func177 (by kernel_rfl) rfl #[.int .u8 (bt a0 (ji29))] (by kernel_rfl) rfl rfl zz109 ?_;(with_reducible refine(vR.calls (bt a0 (ji29)) t146 _ A33.out).mono ?_);rintro e w' ⟨rfl,⟨nd,rfl⟩⟩;refine⟨_,rfl,?_⟩;refine hK.out _ _ trivial (fun hHeld=>?_);clear hK K;refine nz ?_;refine oz 11 51 (fun K hK=>?_);refine Kd.R_lit_step (Kd.int .u8) _ 5 ?hg (N:=51) ?hd (xs:=([37,t145,t146]:List Int)) (inner:= [.int .u8 37,.int .u8 t145,.int .u8 t146]) (ok:=fun _=>True) (okp:=fun _=>True) ?hr ?hp (fun _ hk=>hk) trivial (Below.refl _ _) (Nat.le_refl _) (by simp) ?_;(case hd=>rfl);(case hg=>rfl);(case hr=>first|(go_simp;done)|(go_simp;rfl));(case hp=>exact(qM.one (show Kd.M (Kd.int .u8) _ _ _ 37 [.int .u8 37]from rfl) (qM.one (show Kd.M (Kd.int .u8) _ _ _ t145 [.int .u8 t145]from rfl) (qM.one (show Kd.M (Kd.int .u8) _ _ _ t146 [.int .u8 t146]from rfl) (qM.none _ _)))));intro v148 w36 ho37 hb hg_ hnew_;clear hg_ hnew_;(first|rw[←Ny147.out]at ho37|(simp only[Int.reduceToNat]at ho37;rw[←Ny147.out]at ho37));have HO149:=am_ (Kd.R_lower (Kd.R_new' ho37 (Kd.R_lt xX)) (zH zz0));replace HO_3:=am_ (Kd.R_elder' xX (Kd.R_base ho37) hb);replace HB:=am_ (kA zz0 hb);clear hb ho37;obtain⟨Ao39,co39,eo39⟩:=Kd.R_slice HO149.out;(first|subst eo39|(injection eo39 with f1_ f2_ f3_;have f4_:=f1_.symm;have f5_:=f3_.symm;clear f1_ f2_ f3_;subst f4_;subst f5_));refine hK.out _ _ trivial (fun hHeld=>?_);clear hK K;refine nz ?_;refine oz 12 52 (fun K hK=>?_);refine Kd.R_append_rows_step (Kd.int .u8) (w0:=w) w.heap.size (by rfl) (.tmp 40) (.tmp 51) 63 5 (.int .u8 0) 1 rfl Tryz.underlying63 info5 rfl (by decide) (by omega) u3 x3_1 y147 _ _ _ (fun k_=>some k_≠(.slice Ao39 y147.length co39:Value).ownBlock) (fun _=>False) rfl rfl ?aO ?aR (fun _ _ h=>h) (fun _ h=>h.elim) ?aF ?aB ?aS ?aL ?_;(case aR=>repeat(first|exact(Kd.R_reads' HO149.out).2.2|(with_reducible refine Kd.C_alloc ?_ _)|(with_reducible refine Kd.C_drewN ?_ _)|(with_reducible refine Kd.C_drew ?_)));(case aB=>exact zz0);(case aF=>exact(fun k_ hk=>Kd.fresh' (Kd.R_lt (by(with_reducible repeat(first|apply Kd.R_alloc|apply Kd.R_drewN|apply Kd.R_drew));exact HO149.out)) k_ hk));(case aO=>exact zz117);(case aS=>exact(zH zz0));(case aL=>have:=LMc34.out;omega);intro v151 w38 ho hb hg hat;rw[←Ny150.out]at ho;replace HO149:=am_ (Kd.R_after (ok:=(fun _=>True)) (by(with_reducible repeat(first|apply Kd.R_alloc|apply Kd.R_drewN|apply Kd.R_drew));exact HO149.out) hg hat);replace HB:=am_ (hb);have HO152:=am_ (ho);clear HO_3;clear ho hb hg hat;refine hK.out _ _ trivial (fun hHeld=>?_);clear hK K;refine nz ?_;refine pz 13 3 ?_;refine qP (wJ HT_.out (by kernel_rfl)) ?_;(try go_wp2);go_roundg kj2
                (case measure=>have:=HK1.out;have:=HJ2.out;omega);case rel=>exact⟨(y150),(wrap64 ((ji29)+1)),(by first|rfl|(simp;done)|(simp only[←hji29]<;>(first|rfl|simp))|(simp[*];done)),H',⟨dY1⟩,⟨by(with_reducible repeat(first|apply Kd.R_alloc|apply Kd.R_drewN|apply Kd.R_drew));exact Kd.R_mono HO152.out (fun _ hk=>trivial)⟩,⟨zz0⟩⟩
               ·rw[if_neg c34]at H;exact absurd H (by simp)
              ·rw[if_neg c31]at H;exact absurd H (by simp)
             ·rw[if_neg c30]at H;exact absurd H (by simp)
            ·rw[if_neg c26]at H;exact absurd H (by simp)
          ·replace c20:=bf_ c20;subst c20;rw[if_neg ft_]at H
           by_cases c40:0≤x4_1
           ·rw[if_pos c40]at H;have c40b0:=dt_ c40;clear c40;(first|rw[c40b0]|(simp only[yC,qD];rw[c40b0])|skip)
            by_cases c41:x4_1<(a0.size:Int)
            ·rw[if_pos c41]at H;have c41b0:=dt_ c41;clear c41
             by_cases c43:x3_1.length<140737488355328
             ·rw[if_pos c43]at H;have LMc43:=am_ c43;clear c43;obtain⟨y153,hy153⟩: ∃y_:List Int,y_=(x3_1++ [bt a0 x4_1]):=⟨_,rfl⟩;replace H:(kC.l0 kj2 a0 y153 ji14)=some r:=by first|(rw[hy153];with_reducible exact H)|(have H2_:=(Option.bind_some _ _).symm.trans H;rw[hy153];with_reducible exact H2_)|(have H2_:=(Option.bind_some _ _).symm.trans H;with_reducible exact H2_)|with_reducible exact H|(rw[hy153];exact H)|exact H
              have Ny153:=am_ hy153;clear hy153;have H':=am_ H;clear H;have p42:0≤(x4_1:Int):=od_ zz5;have q42:x4_1<(a0.size:Int):=od_ zz5;have hx42:=wP a0 x4_1;replace p42:=eq_true p42;replace q42:=eq_true q42;go_wp2_with (first|((with_reducible refine zO (b:= .append) (xs:= #[.tmp 56,.tmp 60]) rfl ?_);(try(refine xV (by rfl) ?_;dsimp only));at_builtin;refine Kd.R_append (Kd.int .u8) (w0:=w) w.heap.size rfl (.tmp 56) (.tmp 60) 63 5 (.int .u8 0) 1 rfl Tryz.underlying63 info5 rfl (by decide) (by omega) u3 x3_1 (bt a0 x4_1) [.int .u8 (bt a0 x4_1)] (fun _=>True) (fun _=>False) rfl rfl ?aP (fun _ hk=>hk.elim) ?aF ?aO ?aB ?aS ?aL ?_;(case aP=>exact rfl);(case aB=>exact zz0);(case aF=>exact(fun _ _=>trivial));(case aO=>exact xX);(case aS=>exact(zH zz0));(case aL=>have:=LMc43.out;omega);intro v154 w44 ho hb hg hat;rw[←Ny153.out]at ho;replace HB:=am_ (hb);have HO155:=am_ (ho);clear HO_3;clear ho hb hg hat))
              go_roundg kj2
              (case measure=>have:=HK1.out;have:=HJ2.out;omega);case rel=>exact⟨(y153),(ji14),(by first|rfl|(simp;done)|(simp only[←hji14]<;>(first|rfl|simp))|(simp[*];done)),H',⟨dY1⟩,⟨by(with_reducible repeat(first|apply Kd.R_alloc|apply Kd.R_drewN|apply Kd.R_drew));exact HO155.out⟩,⟨zz0⟩⟩
             ·rw[if_neg c43]at H;exact absurd H (by simp)
            ·rw[if_neg c41]at H;exact absurd H (by simp)
           ·rw[if_neg c40]at H;exact absurd H (by simp)
         ·rw[if_neg c17]at H;exact absurd H (by simp)
        ·rw[if_neg c16]at H;exact absurd H (by simp)
       ·rw[if_neg c15]at H;exact absurd H (by simp)
   ·rw[if_neg c2]at H;have c2b0:=df_ c2;clear c2;obtain rfl:=si_ H;have hcv45:=kS (P:=Tryz.prog) Tryz.underlying63 Tryz.underlying5 Tryz.underlying9 (Kd.own_of_R HO_3.out);go_wp2
    go_ret;exact⟨zz1,zz0⟩
end Go.Proofs.YteojcbbifacpnaaGreatDoor.GFnExactReadLine
