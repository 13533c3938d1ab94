-- Printed by gen.py and its programs for this claim.
import Derived.Test.YteojcbbifacpnaaGreatDoorGFnExactReadLinex0
import Derived.Test.YteojcbbifacpnaaGreatDoorGFnExactReadLinex20
import Derived.Test.YteojcbbifacpnaaGreatDoorGFnExactReadLinex28
import Derived.Test.YteojcbbifacpnaaGreatDoorGFnExactReadLinex32
import Derived.Test.YteojcbbifacpnaaGreatDoorZFnExactReadLine
namespace Go.Proofs.YteojcbbifacpnaaGreatDoor.GFnExactReadLine
open Go.RowKit Go.Proofs.YteojcbbifacpnaaGreatDoorW.PrintWords Go.Proofs.YteojcbbifacpnaaGreatDoorW.PrintLast Go.Proofs.YteojcbbifacpnaaGreatDoorW.PrintMore Go.Proofs.YteojcbbifacpnaaGreatDoorW.Zs
set_option maxHeartbeats 40000000
set_option maxRecDepth 100000
attribute [local go_sem] zL qL xN zN qK xK xL jL
set_option linter.unusedVariables false
set_option linter.unusedSimpArgs false
def yL.l0:Nat→Int→Int→Int→Int→Int→Int→Int→Int→Option (Int×Bool)
 |0,_,_,_,_,_,_,_,_=>none
 |k+1,x4,x5,x527000,x527001,x527002,x527003,x527004,x527005=>if x5<x527001 then((yG.f k x527000 x5).bind fun t529=>(yL.l0 k (wrap64 (x4+t529)) (wrap64 (x5+1)) x527000 x527001 x527002 x527003 x527004 x527005))else(some (wrap64 ((wrap64 ((wrap64 ((wrap64 (86400*x4))+(wrap64 (3600*x527003))))+(wrap64 (60*x527004))))+x527005),true))
def yL.f (k:Nat) (a0_0 a0_1 a0_2 a0_3 a0_4 a0_5:Int):Option (Int×Bool):=(vH.f k a0_0 a0_1 a0_2 a0_3 a0_4 a0_5).bind fun t527=>(if t527=true then((yN.f a0_0).bind fun t528=>(yL.l0 k (wrap64 ((wrap64 (t528+a0_2))-1)) 1 a0_0 a0_1 a0_2 a0_3 a0_4 a0_5))else(some (0,false)))
theorem yL.calls (k:Nat) (a0_0 a0_1 a0_2 a0_3 a0_4 a0_5 r1:Int) (r2:Bool) (w:World) (h:yL.f k a0_0 a0_1 a0_2 a0_3 a0_4 a0_5=some (r1,r2)):
  Calls Tryz.prog 85 #[.agg #[.int .i64 a0_0,.int .i64 a0_1,.int .i64 a0_2,.int .i64 a0_3,.int .i64 a0_4,.int .i64 a0_5]] w fun e w'=>e= .returned (.tuple #[.int .i64 r1,.bool r2])∧Below w.heap.size w w':=by
 have hu92:=Tryz.underlying92;have HB:=am_ (Below.refl w.heap.size w);have H:((vH.f k a0_0 a0_1 a0_2 a0_3 a0_4 a0_5).bind fun t527=>(if t527=true then((yN.f a0_0).bind fun t528=>(yL.l0 k (wrap64 ((wrap64 (t528+a0_2))-1)) 1 a0_0 a0_1 a0_2 a0_3 a0_4 a0_5))else(some (0,false))))=some (r1,r2):=h;clear h;replace H:=be_ H;obtain⟨t527,A20,H⟩:=H;(try dsimp only at H);have A2:=am_ A20;clear A20
 by_cases c3:t527=true
 ·subst c3;rw[if_pos rfl]at H;replace H:=be_ H;obtain⟨t528,A40,H⟩:=H;(try dsimp only at H);have A4:=am_ A40;clear A40;have H':=am_ H;clear H;go_enter Tryz.func85,Tryz.ntmps85
  go_wp2_with (first|((with_reducible refine xF (N:=1) rfl ?_);refine jN (N:=1) (cs:= #[.int .i64 a0_0,.int .i64 a0_1,.int .i64 a0_2,.int .i64 a0_3,.int .i64 a0_4,.int .i64 a0_5]) (t:=92) ?_;intro gb526 hg w5 hbox hb;have BK526:=am_ (hbox);have GE526:=wQ (w:=w) hg zz0;replace HB:=am_ (kA zz0 hb);clear hb hbox hg;obtain⟨_,_,_,_,_,_,_,_,_,_,_,_⟩:=yO BK526.out)|(go_at_call 120;(with_reducible refine(vH.calls k a0_0 a0_1 a0_2 a0_3 a0_4 a0_5 true _ A2.out).mono ?_);rintro e w7 ⟨rfl,hb⟩;have n0_:=am_ (qB zz52 hb);have n1_:=am_ (kA zz28 hb);clear BK526;clear HB;have BK526:=n0_;have HB:=n1_;clear n0_ n1_;(try clear hb);(try clear hb2);(try clear hk);(try clear hi);have hcz8_0:w7.cell? ⟨gb526,0,none⟩=some (.int .i64 a0_0):=(qA BK526.out 0).trans rfl;have hcz8_1:w7.cell? ⟨gb526,1,none⟩=some (.int .i64 a0_1):=(qA BK526.out 1).trans rfl;have hcz8_2:w7.cell? ⟨gb526,2,none⟩=some (.int .i64 a0_2):=(qA BK526.out 2).trans rfl;have hcz8_3:w7.cell? ⟨gb526,3,none⟩=some (.int .i64 a0_3):=(qA BK526.out 3).trans rfl;have hcz8_4:w7.cell? ⟨gb526,4,none⟩=some (.int .i64 a0_4):=(qA BK526.out 4).trans rfl;have hcz8_5:w7.cell? ⟨gb526,5,none⟩=some (.int .i64 a0_5):=(qA BK526.out 5).trans rfl;have hfz8_0:=xA BK526.out 0;have hfz8_1:=xA BK526.out 1;have hfz8_2:=xA BK526.out 2;have hfz8_3:=xA BK526.out 3;have hfz8_4:=xA BK526.out 4;have hfz8_5:=xA BK526.out 5)|(go_at_call 121;(with_reducible refine(yN.calls a0_0 t528 _ A4.out).mono ?_);rintro e w' ⟨rfl,⟨nd,rfl⟩⟩;(try first|exact⟨rfl,_,World.drewN_drewN _ _ _⟩|exact⟨rfl,_,Eq.trans (World.drewN_drewN _ _ _) (congrArg (World.drewN _) (Nat.add_assoc _ _ _))⟩)))
  repeat(go_quiet (first|((with_reducible refine xF (N:=1) rfl ?_);refine jN (N:=1) (cs:= #[.int .i64 a0_0,.int .i64 a0_1,.int .i64 a0_2,.int .i64 a0_3,.int .i64 a0_4,.int .i64 a0_5]) (t:=92) ?_;intro gb526 hg w5 hbox hb;have BK526:=am_ (hbox);have GE526:=wQ (w:=w) hg zz0;replace HB:=am_ (kA zz0 hb);clear hb hbox hg;obtain⟨_,_,_,_,_,_,_,_,_,_,_,_⟩:=yO BK526.out)|(go_at_call 120;(with_reducible refine(vH.calls k a0_0 a0_1 a0_2 a0_3 a0_4 a0_5 true _ A2.out).mono ?_);rintro e w7 ⟨rfl,hb⟩;have n0_:=am_ (qB zz52 hb);have n1_:=am_ (kA zz28 hb);clear BK526;clear HB;have BK526:=n0_;have HB:=n1_;clear n0_ n1_;(try clear hb);(try clear hb2);(try clear hk);(try clear hi);have hcz8_0:w7.cell? ⟨gb526,0,none⟩=some (.int .i64 a0_0):=(qA BK526.out 0).trans rfl;have hcz8_1:w7.cell? ⟨gb526,1,none⟩=some (.int .i64 a0_1):=(qA BK526.out 1).trans rfl;have hcz8_2:w7.cell? ⟨gb526,2,none⟩=some (.int .i64 a0_2):=(qA BK526.out 2).trans rfl;have hcz8_3:w7.cell? ⟨gb526,3,none⟩=some (.int .i64 a0_3):=(qA BK526.out 3).trans rfl;have hcz8_4:w7.cell? ⟨gb526,4,none⟩=some (.int .i64 a0_4):=(qA BK526.out 4).trans rfl;have hcz8_5:w7.cell? ⟨gb526,5,none⟩=some (.int .i64 a0_5):=(qA BK526.out 5).trans rfl;have hfz8_0:=xA BK526.out 0;have hfz8_1:=xA BK526.out 1;have hfz8_2:=xA BK526.out 2;have hfz8_3:=xA BK526.out 3;have hfz8_4:=xA BK526.out 4;have hfz8_5:=xA BK526.out 5)|(go_at_call 121;(with_reducible refine(yN.calls a0_0 t528 _ A4.out).mono ?_);rintro e w' ⟨rfl,⟨nd,rfl⟩⟩;(try first|exact⟨rfl,_,World.drewN_drewN _ _ _⟩|exact⟨rfl,_,Eq.trans (World.drewN_drewN _ _ _) (congrArg (World.drewN _) (Nat.add_assoc _ _ _))⟩)));try go_wp2_with (first|((with_reducible refine xF (N:=1) rfl ?_);refine jN (N:=1) (cs:= #[.int .i64 a0_0,.int .i64 a0_1,.int .i64 a0_2,.int .i64 a0_3,.int .i64 a0_4,.int .i64 a0_5]) (t:=92) ?_;intro gb526 hg w5 hbox hb;have BK526:=am_ (hbox);have GE526:=wQ (w:=w) hg zz0;replace HB:=am_ (kA zz0 hb);clear hb hbox hg;obtain⟨_,_,_,_,_,_,_,_,_,_,_,_⟩:=yO BK526.out)|(go_at_call 120;(with_reducible refine(vH.calls k a0_0 a0_1 a0_2 a0_3 a0_4 a0_5 true _ A2.out).mono ?_);rintro e w7 ⟨rfl,hb⟩;have n0_:=am_ (qB zz52 hb);have n1_:=am_ (kA zz28 hb);clear BK526;clear HB;have BK526:=n0_;have HB:=n1_;clear n0_ n1_;(try clear hb);(try clear hb2);(try clear hk);(try clear hi);have hcz8_0:w7.cell? ⟨gb526,0,none⟩=some (.int .i64 a0_0):=(qA BK526.out 0).trans rfl;have hcz8_1:w7.cell? ⟨gb526,1,none⟩=some (.int .i64 a0_1):=(qA BK526.out 1).trans rfl;have hcz8_2:w7.cell? ⟨gb526,2,none⟩=some (.int .i64 a0_2):=(qA BK526.out 2).trans rfl;have hcz8_3:w7.cell? ⟨gb526,3,none⟩=some (.int .i64 a0_3):=(qA BK526.out 3).trans rfl;have hcz8_4:w7.cell? ⟨gb526,4,none⟩=some (.int .i64 a0_4):=(qA BK526.out 4).trans rfl;have hcz8_5:w7.cell? ⟨gb526,5,none⟩=some (.int .i64 a0_5):=(qA BK526.out 5).trans rfl;have hfz8_0:=xA BK526.out 0;have hfz8_1:=xA BK526.out 1;have hfz8_2:=xA BK526.out 2;have hfz8_3:=xA BK526.out 3;have hfz8_4:=xA BK526.out 4;have hfz8_5:=xA BK526.out 5)|(go_at_call 121;(with_reducible refine(yN.calls a0_0 t528 _ A4.out).mono ?_);rintro e w' ⟨rfl,⟨nd,rfl⟩⟩;(try first|exact⟨rfl,_,World.drewN_drewN _ _ _⟩|exact⟨rfl,_,Eq.trans (World.drewN_drewN _ _ _) (congrArg (World.drewN _) (Nat.add_assoc _ _ _))⟩))))
  go_loopg [4,5] k (fun kq v4 v5 w'=> ∃(x4_1 x5_1:Int),v4= .int .i64 x4_1∧v5= .int .i64 x5_1∧wA (yL.l0 kq x4_1 x5_1 a0_0 a0_1 a0_2 a0_3 a0_4 a0_5=some (r1,r2))∧wA (kq≤k)∧wA (w'.heap[gb526]?=some (.cells #[.int .i64 a0_0,.int .i64 a0_1,.int .i64 a0_2,.int .i64 a0_3,.int .i64 a0_4,.int .i64 a0_5] 92 (0,0)))∧wA (Below w.heap.size w w'))
  case atStart=>exact⟨(wrap64 ((wrap64 (t528+a0_2))-1)),(1),vB,vB,H',⟨Nat.le_refl _⟩,⟨zz52⟩,⟨zz28⟩⟩
  case round=>
   clear H';(try clear p2);(try clear c3);(try clear p6);(try clear c8);(try clear hcz6_0);(try clear hcz6_1);(try clear hcz6_2);(try clear hcz6_3);(try clear hcz6_4);(try clear hcz6_5);(try clear hcz8_0);(try clear hcz8_1);(try clear hcz8_2);(try clear hcz8_3);(try clear hcz8_4);(try clear hcz8_5);(try clear hfz6_0);(try clear hfz6_1);(try clear hfz6_2);(try clear hfz6_3);(try clear hfz6_4);(try clear hfz6_5);(try clear hfz8_0);(try clear hfz8_1);(try clear hfz8_2);(try clear hfz8_3);(try clear hfz8_4);(try clear hfz8_5);obtain⟨x4_1,x5_1,rfl,rfl,HA,HK1,BK526,HB⟩:=hrel
   cases gk with
   |zero=>exact absurd HA.out (by simp[yL.l0])
   |succ k1=>
    have H:=HA.out;clear HA;simp only[yL.l0]at H
    by_cases c9:x5_1<a0_1
    ·rw[if_pos c9]at H;have c9b0:=dt_ c9;clear c9;replace H:=be_ H;obtain⟨t529,A100,H⟩:=H;(try dsimp only at H);have A10:=am_ A100;clear A100;have H':=am_ H;clear H;obtain⟨_,_,_,_,_,_,_,_,_,_,_,_⟩:=yO BK526.out;go_wp2_with (first|(go_at_call 122;(with_reducible refine(yG.calls k1 a0_0 x5_1 t529 _ A10.out).mono ?_);rintro e w' ⟨rfl,⟨nd,rfl⟩⟩;(try first|exact⟨rfl,_,World.drewN_drewN _ _ _⟩|exact⟨rfl,_,Eq.trans (World.drewN_drewN _ _ _) (congrArg (World.drewN _) (Nat.add_assoc _ _ _))⟩)))
     repeat(go_quiet (first|(go_at_call 122;(with_reducible refine(yG.calls k1 a0_0 x5_1 t529 _ A10.out).mono ?_);rintro e w' ⟨rfl,⟨nd,rfl⟩⟩;(try first|exact⟨rfl,_,World.drewN_drewN _ _ _⟩|exact⟨rfl,_,Eq.trans (World.drewN_drewN _ _ _) (congrArg (World.drewN _) (Nat.add_assoc _ _ _))⟩)));try go_wp2_with (first|(go_at_call 122;(with_reducible refine(yG.calls k1 a0_0 x5_1 t529 _ A10.out).mono ?_);rintro e w' ⟨rfl,⟨nd,rfl⟩⟩;(try first|exact⟨rfl,_,World.drewN_drewN _ _ _⟩|exact⟨rfl,_,Eq.trans (World.drewN_drewN _ _ _) (congrArg (World.drewN _) (Nat.add_assoc _ _ _))⟩))))
     go_roundg k1
     (case measure=>have:=HK1.out;omega);case rel=>exact⟨(wrap64 (x4_1+t529)),(wrap64 (x5_1+1)),vB,vB,H',⟨aJ5⟩,⟨zz52⟩,⟨zz28⟩⟩
    ·rw[if_neg c9]at H;have c9b0:=df_ c9;clear c9;simp only[Option.some.injEq,Prod.mk.injEq]at H;obtain⟨rfl,rfl⟩:=H;obtain⟨_,_,_,_,_,_,_,_,_,_,_,_⟩:=yO BK526.out;go_wp2
     repeat(go_quiet (fail);try go_wp2)
     go_ret2
     exact⟨zz1,zz28⟩
 ·replace c3:=bf_ c3;subst c3;rw[if_neg ft_]at H;simp only[Option.some.injEq,Prod.mk.injEq]at H;obtain⟨rfl,rfl⟩:=H;go_enter Tryz.func85,Tryz.ntmps85
  go_wp2_with (first|((with_reducible refine xF (N:=1) rfl ?_);refine jN (N:=1) (cs:= #[.int .i64 a0_0,.int .i64 a0_1,.int .i64 a0_2,.int .i64 a0_3,.int .i64 a0_4,.int .i64 a0_5]) (t:=92) ?_;intro gb526 hg w13 hbox hb;have BK526:=am_ (hbox);have GE526:=wQ (w:=w) hg zz0;replace HB:=am_ (kA zz0 hb);clear hb hbox hg;obtain⟨_,_,_,_,_,_,_,_,_,_,_,_⟩:=yO BK526.out)|(go_at_call 120;(with_reducible refine(vH.calls k a0_0 a0_1 a0_2 a0_3 a0_4 a0_5 false _ A2.out).mono ?_);rintro e w15 ⟨rfl,hb⟩;have n0_:=am_ (qB zz52 hb);have n1_:=am_ (kA zz28 hb);clear BK526;clear HB;have BK526:=n0_;have HB:=n1_;clear n0_ n1_;(try clear hb);(try clear hb2);(try clear hk);(try clear hi)))
  repeat(go_quiet (first|((with_reducible refine xF (N:=1) rfl ?_);refine jN (N:=1) (cs:= #[.int .i64 a0_0,.int .i64 a0_1,.int .i64 a0_2,.int .i64 a0_3,.int .i64 a0_4,.int .i64 a0_5]) (t:=92) ?_;intro gb526 hg w13 hbox hb;have BK526:=am_ (hbox);have GE526:=wQ (w:=w) hg zz0;replace HB:=am_ (kA zz0 hb);clear hb hbox hg;obtain⟨_,_,_,_,_,_,_,_,_,_,_,_⟩:=yO BK526.out)|(go_at_call 120;(with_reducible refine(vH.calls k a0_0 a0_1 a0_2 a0_3 a0_4 a0_5 false _ A2.out).mono ?_);rintro e w15 ⟨rfl,hb⟩;have n0_:=am_ (qB zz52 hb);have n1_:=am_ (kA zz28 hb);clear BK526;clear HB;have BK526:=n0_;have HB:=n1_;clear n0_ n1_;(try clear hb);(try clear hb2);(try clear hk);(try clear hi)));try go_wp2_with (first|((with_reducible refine xF (N:=1) rfl ?_);refine jN (N:=1) (cs:= #[.int .i64 a0_0,.int .i64 a0_1,.int .i64 a0_2,.int .i64 a0_3,.int .i64 a0_4,.int .i64 a0_5]) (t:=92) ?_;intro gb526 hg w13 hbox hb;have BK526:=am_ (hbox);have GE526:=wQ (w:=w) hg zz0;replace HB:=am_ (kA zz0 hb);clear hb hbox hg;obtain⟨_,_,_,_,_,_,_,_,_,_,_,_⟩:=yO BK526.out)|(go_at_call 120;(with_reducible refine(vH.calls k a0_0 a0_1 a0_2 a0_3 a0_4 a0_5 false _ A2.out).mono ?_);rintro e w15 ⟨rfl,hb⟩;have n0_:=am_ (qB zz52 hb);have n1_:=am_ (kA zz28 hb);clear BK526;clear HB;have BK526:=n0_;have HB:=n1_;clear n0_ n1_;(try clear hb);(try clear hb2);(try clear hk);(try clear hi))))
  go_ret2
  exact⟨zz1,zz28⟩
def xG.l0:Nat→ByteArray→Int→Option (Bool)
 |0,_,_=>none
 |k+1,x0,x5=>if x5<(x0.size:Int)then(if 0≤x5 then((kL.f (bt x0 x5)).bind fun t530=>(if t530=true then(xG.l0 k x0 (wrap64 (x5+1)))else(some false)))else(none))else(some true)
def xG.f (k:Nat) (a0:ByteArray):Option (Bool):=xG.l0 k a0 0
theorem xG.calls (k:Nat) (a0:ByteArray) (r:Bool) (w:World) (h:xG.f k a0=some r):
  Calls Tryz.prog 81 #[.string a0,.func (.func 82) #[] #[]] w fun e w'=>e= .returned (.bool r)∧wI w w':=by
 have H:(xG.l0 k a0 0)=some r:=h;clear h;have H':=am_ H;clear H;go_enter Tryz.func81,Tryz.ntmps81
 go_wp2
 go_loopg [5] k (fun kq v5 w'=> ∃(x5_1:Int),v5= .int .i64 x5_1∧wA (xG.l0 kq a0 x5_1=some r)∧wA (kq≤k)∧wI w w')
 case atStart=>exact⟨(0),vB,H',⟨Nat.le_refl _⟩,zz4⟩
 case round=>
  clear H';obtain⟨x5_1,rfl,HA,HK1,⟨m1,rfl⟩⟩:=hrel
  cases gk with
  |zero=>exact absurd HA.out (by simp[xG.l0])
  |succ k1=>
   have H:=HA.out;clear HA;simp only[xG.l0]at H
   by_cases c2:x5_1<(a0.size:Int)
   ·rw[if_pos c2]at H;have c2b0:=dt_ c2;clear c2
    by_cases c3:0≤x5_1
    ·rw[if_pos c3]at H;have c3b0:=dt_ c3;clear c3;replace H:=be_ H;obtain⟨t530,A50,H⟩:=H;(try dsimp only at H);have A5:=am_ A50;clear A50;have HC6:=am_ H;clear H;have p4:0≤(x5_1:Int):=od_ zz5;have q4:x5_1<(a0.size:Int):=od_ zz5;have hx4:=wP a0 x5_1;replace p4:=eq_true p4;replace q4:=eq_true q4;go_upto_if 17 with(first|(go_at_call 82;(with_reducible refine(kL.calls (bt a0 x5_1) t530 _ A5.out).mono ?_);rintro e w' ⟨rfl,⟨nd,rfl⟩⟩))
     (try simp only[Act.put,List.setIfInBounds_toArray,List.set_cons_zero,List.set_cons_succ]);have H:=HC6.out;clear HC6
     by_cases c7:t530=true
     ·subst c7;rw[if_pos rfl]at H;have H':=am_ H;clear H;go_wp2
      go_roundg k1
      (case measure=>have:=HK1.out;omega);case rel=>exact⟨(wrap64 (x5_1+1)),vB,H',⟨aJ5⟩,zz4⟩
     ·replace c7:=bf_ c7;subst c7;rw[if_neg ft_]at H;obtain rfl:=si_ H;go_wp2
      go_ret;exact⟨vB,zz4⟩
    ·rw[if_neg c3]at H;exact absurd H (by simp)
   ·rw[if_neg c2]at H;have c2b0:=df_ c2;clear c2;obtain rfl:=si_ H;go_wp2
    go_ret;exact⟨vB,zz4⟩
theorem wM.bb {w W:World} {g:Nat} {o:Obj} (h:w.heap[g]?=some o) (hb:Below w.heap.size w W):W.heap[g]?=some o:=(hb.block g (by
 rcases Nat.lt_or_ge g w.heap.size with h'|h'
 ·exact h'
 ·simp[Array.getElem?_eq_none h']at h)).trans h
def zJ (s:ByteArray) (i j:Int):Option Int:=match Lib.atoiAll (s.extract i.toNat j.toNat).data.toList with
 | .ok v=>some v
 |_=>none
def wM.f (k:Nat) (a0:ByteArray):Option (Int×Bool):=if(a0.size:Int)=14 then((xG.f k a0).bind fun t=>(if t=true then((zJ a0 0 4).bind fun v0=>(zJ a0 4 6).bind fun v1=>(zJ a0 6 8).bind fun v2=>(zJ a0 8 10).bind fun v3=>(zJ a0 10 12).bind fun v4=>(zJ a0 12 14).bind fun v5=>(yL.f k v0 v1 v2 v3 v4 v5))else(some (0,false))))else(some (0,false))
theorem wR (s:ByteArray) (i j v:Int) (gn:Nat) (w:World) (hg:w.heap[gn]?=some (.cells #[.string s] 9 (0,0))) (hs:(s.size:Int)=14) (h0:0≤i) (h1:i≤j) (h2:j≤14) (h:zJ s i j=some v):
  Calls Tryz.prog 83 #[.int .i64 i,.int .i64 j,.pointer (some ⟨gn,0,none⟩)] w fun e w'=>e= .returned (.int .i64 v)∧Below w.heap.size w w':=by
 have hA:Lib.atoiAll (s.extract i.toNat j.toNat).data.toList= .ok v:=by
  unfold zJ at h
  cases hq:Lib.atoiAll (s.extract i.toNat j.toNat).data.toList with
  |ok u=>rw[hq]at h;rw[si_ h]
  |_=>rw[hq]at h;cases h
 have hz:(s.extract i.toNat j.toNat).size≤9223372036854775806:=by rw[ByteArray.size_extract];omega
 have hat:=(Tryz.strconv_Atoi_ok (s.extract i.toNat j.toNat) hz v hA w).mono (R':=fun e w'=>e= .returned (.tuple #[.int .i64 v,.nilIface])∧Below w.heap.size w w') (by
  rintro e w' ⟨he,hw|⟨t,hw⟩⟩
  ·subst hw;exact⟨he,Below.refl _ _⟩
  ·subst hw;exact⟨he,cJ5 (Below.refl _ _) (Nat.le_refl _) _ _⟩)
 have hc0:w.cell? ⟨gn,0,none⟩=some (.string s):=(qA hg 0).trans rfl;have q2:j≤(s.size:Int):=by omega
 clear h hA hz;go_enter Tryz.func83,Tryz.ntmps83
 go_wp2_with (go_at_call 84;refine hat.mono ?_;rintro e w1 ⟨rfl,hb1⟩;have HB1:=am_ hb1;clear hb1)
 go_ret;exact⟨rfl,HB1.out⟩
theorem wM.calls (k:Nat) (a0:ByteArray) (r1:Int) (r2:Bool) (w:World) (h:wM.f k a0=some (r1,r2)):
  Calls Tryz.prog 51 #[.string a0] w fun e w'=>e= .returned (.tuple #[.int .i64 r1,.bool r2])∧Below w.heap.size w w':=by
 unfold wM.f at h
 by_cases hz:(a0.size:Int)=14
 ·rw[if_pos hz]at h;obtain⟨t,ht,h⟩:=be_ h;have HT:=am_ ht;have HZ:=am_ hz;have hz1:((a0.size:Int)==14)=true:=beq_iff_eq.mpr hz;have hz2:((a0.size:Int)!=14)=false:=bne_eq_false_iff_eq.mpr hz;clear ht hz;cases t
  ·rw[if_neg ft_]at h;obtain⟨rfl,rfl⟩:(0:Int)=r1∧false=r2:=by simpa only[Option.some.injEq,Prod.mk.injEq]using h
   go_enter Tryz.func51,Tryz.ntmps51
   go_wp2_with (go_at_call 81;refine(xG.calls k a0 false _ HT.out).mono ?_;rintro e w' ⟨rfl,⟨nd,rfl⟩⟩)
   go_ret2
   exact⟨rfl,wC (zD (Below.refl _ _) _) nd⟩
  ·rw[if_pos rfl]at h;obtain⟨v0,h0,h⟩:=be_ h;obtain⟨v1,h1,h⟩:=be_ h;obtain⟨v2,h2,h⟩:=be_ h;obtain⟨v3,h3,h⟩:=be_ h;obtain⟨v4,h4,h⟩:=be_ h;obtain⟨v5,h5,h⟩:=be_ h;have H0:=am_ h0;have H1:=am_ h1;have H2:=am_ h2;have H3:=am_ h3;have H4:=am_ h4;have H5:=am_ h5;have HS:=am_ h;clear h0 h1 h2 h3 h4 h5 h;go_enter Tryz.func51,Tryz.ntmps51
   go_wp2_with (go_at_call 81;refine(xG.calls k a0 true _ HT.out).mono ?_;rintro e w' ⟨rfl,⟨nd,rfl⟩⟩)
   have BK0:=am_ (show((w.alloc (.cells #[.string a0] 9)).drewN nd).heap[w.heap.size]?=some (.cells #[.string a0] 9 (0,0))from zA (heap_alloc_new w _) nd);have HB0:=am_ (show Below w.heap.size w ((w.alloc (.cells #[.string a0] 9)).drewN nd)from wC (zD (Below.refl _ _) _) nd);refine(wR a0 0 4 v0 w.heap.size _ BK0.out HZ.out (by decide) (by decide) (by decide) H0.out).mono ?_;rintro e w1 ⟨rfl,hb⟩;have BK1:=am_ (wM.bb BK0.out hb);have HB1:=am_ (kA HB0.out hb);clear hb;go_wp2_with fail
   refine(wR a0 4 6 v1 w.heap.size _ BK1.out HZ.out (by decide) (by decide) (by decide) H1.out).mono ?_;rintro e w2 ⟨rfl,hb⟩;have BK2:=am_ (wM.bb BK1.out hb);have HB2:=am_ (kA HB1.out hb);clear hb;go_wp2_with fail
   refine(wR a0 6 8 v2 w.heap.size _ BK2.out HZ.out (by decide) (by decide) (by decide) H2.out).mono ?_;rintro e w3 ⟨rfl,hb⟩;have BK3:=am_ (wM.bb BK2.out hb);have HB3:=am_ (kA HB2.out hb);clear hb;go_wp2_with fail
   refine(wR a0 8 10 v3 w.heap.size _ BK3.out HZ.out (by decide) (by decide) (by decide) H3.out).mono ?_;rintro e w4 ⟨rfl,hb⟩;have BK4:=am_ (wM.bb BK3.out hb);have HB4:=am_ (kA HB3.out hb);clear hb;go_wp2_with fail
   refine(wR a0 10 12 v4 w.heap.size _ BK4.out HZ.out (by decide) (by decide) (by decide) H4.out).mono ?_;rintro e w5 ⟨rfl,hb⟩;have BK5:=am_ (wM.bb BK4.out hb);have HB5:=am_ (kA HB4.out hb);clear hb;go_wp2_with fail
   refine(wR a0 12 14 v5 w.heap.size _ BK5.out HZ.out (by decide) (by decide) (by decide) H5.out).mono ?_;rintro e w6 ⟨rfl,hb⟩;have BK6:=am_ (wM.bb BK5.out hb);have HB6:=am_ (kA HB5.out hb);clear hb;go_wp2_with fail
   refine(yL.calls k v0 v1 v2 v3 v4 v5 r1 r2 _ HS.out).mono ?_;rintro e w7 ⟨rfl,hb⟩;have HB7:=am_ (kA HB6.out hb);clear hb;go_wp2
   go_ret2
   exact⟨rfl,HB7.out⟩
 ·rw[if_neg hz]at h;obtain⟨rfl,rfl⟩:(0:Int)=r1∧false=r2:=by simpa only[Option.some.injEq,Prod.mk.injEq]using h
  have hz1:((a0.size:Int)==14)=false:=beq_eq_false_iff_ne.mpr hz;have hz2:((a0.size:Int)!=14)=true:=bne_iff_ne.mpr hz;go_enter Tryz.func51,Tryz.ntmps51
  go_wp2
  go_ret2
  exact⟨rfl,zD (Below.refl _ _) _⟩
end Go.Proofs.YteojcbbifacpnaaGreatDoor.GFnExactReadLine
