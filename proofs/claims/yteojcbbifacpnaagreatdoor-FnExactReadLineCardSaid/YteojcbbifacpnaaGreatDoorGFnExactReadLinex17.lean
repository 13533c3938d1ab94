-- Printed by gen.py and its programs for this claim.
import Derived.Test.YteojcbbifacpnaaGreatDoorGFnExactReadLinex0
import Derived.Test.YteojcbbifacpnaaGreatDoorGFnExactReadLinex12
import Derived.Test.YteojcbbifacpnaaGreatDoorGFnExactReadLinex15
import Derived.Test.YteojcbbifacpnaaGreatDoorGFnExactReadLinex16
import Derived.Test.YteojcbbifacpnaaGreatDoorZFnExactReadLine
namespace Go.Proofs.YteojcbbifacpnaaGreatDoor.GFnExactReadLine
open Go.RowKit Go.Proofs.YteojcbbifacpnaaGreatDoorW.PrintWords Go.Proofs.YteojcbbifacpnaaGreatDoorW.PrintLast Go.Proofs.YteojcbbifacpnaaGreatDoorW.PrintMore Go.Proofs.YteojcbbifacpnaaGreatDoorW.Zs
set_option maxHeartbeats 40000000
set_option maxRecDepth 100000
attribute [local go_sem] zL qL xN zN qK xK xL jL
set_option linter.unusedVariables false
set_option linter.unusedSimpArgs false
mutual
def zG.l0:Nat→Int→Int→Int→Int→Int→Int→Int→Int→Option (Int×Bool)
 |0,_,_,_,_,_,_,_,_=>none
 |k+1,x4,x5,x274000,x274001,x274002,x274003,x274004,x274005=>if x5<x274000 then((kT.f x5).bind fun t275=>(zG.l0 k (wrap64 (x4+t275)) (wrap64 (x5+1)) x274000 x274001 x274002 x274003 x274004 x274005))else(zG.l1 k x4 1 x274000 x274001 x274002 x274003 x274004 x274005)
def zG.l1:Nat→Int→Int→Int→Int→Int→Int→Int→Int→Option (Int×Bool)
 |0,_,_,_,_,_,_,_,_=>none
 |k+1,x4,x6,x274000,x274001,x274002,x274003,x274004,x274005=>if x6<x274001 then((qO.f x274000 x6).bind fun t276=>(zG.l1 k (wrap64 (x4+t276)) (wrap64 (x6+1)) x274000 x274001 x274002 x274003 x274004 x274005))else(some (wrap64 ((wrap64 ((wrap64 ((wrap64 ((wrap64 ((wrap64 (x4*24))+x274003))*60))+x274004))*60))+x274005),true))
end
def zG.f (k:Nat) (a0_0 a0_1 a0_2 a0_3 a0_4 a0_5:Int):Option (Int×Bool):=(zF.f a0_0 a0_1 a0_2 a0_3 a0_4 a0_5).bind fun t274=>(if t274=true then(zG.l0 k (wrap64 (a0_2-1)) 1970 a0_0 a0_1 a0_2 a0_3 a0_4 a0_5)else(some (0,false)))
theorem zG.calls (k:Nat) (a0_0 a0_1 a0_2 a0_3 a0_4 a0_5 r1:Int) (r2:Bool) (w:World) (h:zG.f k a0_0 a0_1 a0_2 a0_3 a0_4 a0_5=some (r1,r2)):
  Calls Tryz.prog 114 #[.agg #[.int .i64 a0_0,.int .i64 a0_1,.int .i64 a0_2,.int .i64 a0_3,.int .i64 a0_4,.int .i64 a0_5]] w fun e w'=>e= .returned (.tuple #[.int .i64 r1,.bool r2])∧Below w.heap.size w w':=by
 have hu92:=Tryz.underlying92;have HB:=am_ (Below.refl w.heap.size w);have H:((zF.f a0_0 a0_1 a0_2 a0_3 a0_4 a0_5).bind fun t274=>(if t274=true then(zG.l0 k (wrap64 (a0_2-1)) 1970 a0_0 a0_1 a0_2 a0_3 a0_4 a0_5)else(some (0,false))))=some (r1,r2):=h;clear h;replace H:=be_ H;obtain⟨t274,A20,H⟩:=H;(try dsimp only at H);have A2:=am_ A20;clear A20;have HC3:=am_ H;clear H;go_enter Tryz.func114,Tryz.ntmps114
 go_upto_if 9 with(first|((with_reducible refine xF (N:=1) rfl ?_);refine jN (N:=1) (cs:= #[.int .i64 a0_0,.int .i64 a0_1,.int .i64 a0_2,.int .i64 a0_3,.int .i64 a0_4,.int .i64 a0_5]) (t:=92) ?_;intro gb273 hg w4 hbox hb;have BK273:=am_ (hbox);have GE273:=wQ (w:=w) hg zz0;replace HB:=am_ (kA zz0 hb);clear hb hbox hg;obtain⟨_,_,_,_,_,_,_,_,_,_,_,_⟩:=yO BK273.out)|((with_reducible refine zB (f:=147) rfl ?_);refine jG 8 Tryz.func147 #[.agg #[.int .i64 a0_0,.int .i64 a0_1,.int .i64 a0_2,.int .i64 a0_3,.int .i64 a0_4,.int .i64 a0_5]] (zF.calls a0_0 a0_1 a0_2 a0_3 a0_4 a0_5 t274 _ A2.out) ?_;rintro w6 hb;replace BK273:=am_ (qB zz79 hb);replace HB:=am_ (kA zz43 hb);(try clear hb)))
 (try simp only[Act.put,List.setIfInBounds_toArray,List.set_cons_zero,List.set_cons_succ]);have H:=HC3.out;clear HC3
 by_cases c7:t274=true
 ·subst c7;rw[if_pos rfl]at H;have H':=am_ H;clear H;obtain⟨_,_,_,_,_,_,_,_,_,_,_,_⟩:=yO BK273.out;go_wp2
  go_loopg [4,5] k (fun kq v4 v5 w'=> ∃(x4_1 x5_1:Int),v4= .int .i64 x4_1∧v5= .int .i64 x5_1∧wA (zG.l0 kq x4_1 x5_1 a0_0 a0_1 a0_2 a0_3 a0_4 a0_5=some (r1,r2))∧wA (kq≤k)∧wA (w'.heap[gb273]?=some (.cells #[.int .i64 a0_0,.int .i64 a0_1,.int .i64 a0_2,.int .i64 a0_3,.int .i64 a0_4,.int .i64 a0_5] 92 (0,0)))∧wA (Below w.heap.size w w'))
  case atStart=>exact⟨(wrap64 (a0_2-1)),(1970),vB,vB,H',⟨Nat.le_refl _⟩,⟨zz79⟩,⟨zz43⟩⟩
  case round=>
   clear H';(try clear c1);(try clear p2);(try clear p6);(try clear c7);(try clear hcz5_0);(try clear hcz5_1);(try clear hcz5_2);(try clear hcz5_3);(try clear hcz5_4);(try clear hcz5_5);(try clear hcz8_0);(try clear hcz8_1);(try clear hcz8_2);(try clear hcz8_3);(try clear hcz8_4);(try clear hcz8_5);(try clear hfz5_0);(try clear hfz5_1);(try clear hfz5_2);(try clear hfz5_3);(try clear hfz5_4);(try clear hfz5_5);(try clear hfz8_0);(try clear hfz8_1);(try clear hfz8_2);(try clear hfz8_3);(try clear hfz8_4);(try clear hfz8_5);obtain⟨x4_1,x5_1,rfl,rfl,HA,HK1,BK273,HB⟩:=hrel
   cases gk with
   |zero=>exact absurd HA.out (by simp[zG.l0])
   |succ k1=>
    have H:=HA.out;clear HA;simp only[zG.l0]at H
    by_cases c9:x5_1<a0_0
    ·rw[if_pos c9]at H;have c9b0:=dt_ c9;clear c9;(first|rw[c9b0]|(simp only[yC,qD];rw[c9b0])|skip);replace H:=be_ H;obtain⟨t275,A100,H⟩:=H;(try dsimp only at H);have A10:=am_ A100;clear A100;have H':=am_ H;clear H;obtain⟨_,_,_,_,_,_,_,_,_,_,_,_⟩:=yO BK273.out;go_wp2_with (first|((with_reducible refine zB (f:=142) rfl ?_);refine jG 21 Tryz.func142 #[.int .i64 x5_1] (kT.calls x5_1 t275 _ A10.out) ?_;rintro w' ⟨nd,rfl⟩))
     go_roundg k1
     (case measure=>have:=HK1.out;omega);case rel=>exact⟨(wrap64 (x4_1+t275)),(wrap64 (x5_1+1)),vB,vB,H',⟨aJ5⟩,⟨zz79⟩,⟨zz43⟩⟩
    ·rw[if_neg c9]at H;have c9b0:=df_ c9;clear c9;(first|rw[c9b0]|(simp only[yC,qD];rw[c9b0])|skip);have H':=am_ H;clear H;obtain⟨_,_,_,_,_,_,_,_,_,_,_,_⟩:=yO BK273.out;go_wp2
     go_loopg [4,6] k1 (fun kq v4 v6 w'=> ∃(x4_2 x6_2:Int),v4= .int .i64 x4_2∧v6= .int .i64 x6_2∧wA (zG.l1 kq x4_2 x6_2 a0_0 a0_1 a0_2 a0_3 a0_4 a0_5=some (r1,r2))∧wA (kq≤k1)∧wA (w'.heap[gb273]?=some (.cells #[.int .i64 a0_0,.int .i64 a0_1,.int .i64 a0_2,.int .i64 a0_3,.int .i64 a0_4,.int .i64 a0_5] 92 (0,0)))∧wA (Below w.heap.size w w'))
     case atStart=>exact⟨(x4_1),(1),vB,vB,H',⟨Nat.le_refl _⟩,⟨zz79⟩,⟨zz43⟩⟩
     case round=>
      clear H';(try clear c1);(try clear p2);(try clear p6);(try clear c7);(try clear c9);(try clear c9b0);(try clear c11);(try clear hcz11_0);(try clear hcz11_1);(try clear hcz11_2);(try clear hcz11_3);(try clear hcz11_4);(try clear hcz11_5);(try clear hcz12_0);(try clear hcz12_1);(try clear hcz12_2);(try clear hcz12_3);(try clear hcz12_4);(try clear hcz12_5);(try clear hcz5_0);(try clear hcz5_1);(try clear hcz5_2);(try clear hcz5_3);(try clear hcz5_4);(try clear hcz5_5);(try clear hcz8_0);(try clear hcz8_1);(try clear hcz8_2);(try clear hcz8_3);(try clear hcz8_4);(try clear hcz8_5);(try clear hfz11_0);(try clear hfz11_1);(try clear hfz11_2);(try clear hfz11_3);(try clear hfz11_4);(try clear hfz11_5);(try clear hfz12_0);(try clear hfz12_1);(try clear hfz12_2);(try clear hfz12_3);(try clear hfz12_4);(try clear hfz12_5);(try clear hfz5_0);(try clear hfz5_1);(try clear hfz5_2);(try clear hfz5_3);(try clear hfz5_4);(try clear hfz5_5);(try clear hfz8_0);(try clear hfz8_1);(try clear hfz8_2);(try clear hfz8_3);(try clear hfz8_4);(try clear hfz8_5);(try clear p2);(try clear p6);obtain⟨x4_2,x6_2,rfl,rfl,HA,HK2,BK273,HB⟩:=hrel
      cases gk with
      |zero=>exact absurd HA.out (by simp[zG.l1])
      |succ k2=>
       have H:=HA.out;clear HA;simp only[zG.l1]at H
       by_cases c13:x6_2<a0_1
       ·rw[if_pos c13]at H;have c13b0:=dt_ c13;clear c13;replace H:=be_ H;obtain⟨t276,A140,H⟩:=H;(try dsimp only at H);have A14:=am_ A140;clear A140;have H':=am_ H;clear H;obtain⟨_,_,_,_,_,_,_,_,_,_,_,_⟩:=yO BK273.out;go_wp2_with (first|((with_reducible refine zB (f:=143) rfl ?_);refine jG 33 Tryz.func143 #[.int .i64 a0_0,.int .i64 x6_2] (qO.calls a0_0 x6_2 t276 _ A14.out) ?_;rintro w' ⟨nd,rfl⟩))
        go_roundg k2
        (case measure=>have:=HK1.out;have:=HK2.out;omega);case rel=>exact⟨(wrap64 (x4_2+t276)),(wrap64 (x6_2+1)),vB,vB,H',⟨cW9⟩,⟨zz79⟩,⟨zz43⟩⟩
       ·rw[if_neg c13]at H;have c13b0:=df_ c13;clear c13;simp only[Option.some.injEq,Prod.mk.injEq]at H;obtain⟨rfl,rfl⟩:=H;obtain⟨_,_,_,_,_,_,_,_,_,_,_,_⟩:=yO BK273.out;go_wp2
        go_ret2
        exact⟨zz1,zz43⟩
 ·replace c7:=bf_ c7;subst c7;rw[if_neg ft_]at H;simp only[Option.some.injEq,Prod.mk.injEq]at H;obtain⟨rfl,rfl⟩:=H;go_wp2
  go_ret2
  exact⟨zz1,zz43⟩
def qS.f (k:Nat) (a0 a1 a2:Int) (a3:ByteArray):Option (Int):=if 0≤2 then(if 2≤(a3.size:Int)then((kH.f k (a3.extract 0 2)).bind fun t277=>(if 3≤5 then(if 5≤(a3.size:Int)then((kH.f k (a3.extract 3 5)).bind fun t278=>(if 6≤8 then(if 8≤(a3.size:Int)then((kH.f k (a3.extract 6 8)).bind fun t279=>((zG.f k a0 a1 a2 t277 t278 t279).bind fun bt280=>(if bt280.2=true then(some bt280.1)else(some (-1)))))else(none))else(none)))else(none))else(none)))else(none))else(none)
def qS.T1:Bool×List (List Nat×List Nat):=(true,[([],[]),([],[]),([],[]),([],[]),([3],[3]),([4],[4]),([],[]),([6],[6]),([7,5],[7]),([],[]),([9],[9]),([10,8],[10]),([0,1,2,5,8,11],[0,1,2,5,8,11]),([12,11],[12]),([13],[13]),([14],[14]),([14],[14]),([15,13,0,1,2,3,4,5,6,7,8,9,10,11,12,13,14,15],[15]),([16,17,0,1,2,3,4,5,6,7,8,9,10,11,12,13,14,15,16,17],[16])])
def qS.B1:List Nat:= [0,0,0,0,8,24,0,64,248,0,512,2040,4095,8191,16383,32767,32767,65535,262143]
theorem qS.tab1:kU .any (kX Tryz.f77 1)=qS.T1:=by kernel_rfl
theorem qS.bits1:kP qS.T1.2 qS.B1=true:=by kernel_rfl
theorem qS.calls (k:Nat) (a0 a1 a2:Int) (a3:ByteArray) (r:Int) (w:World) (h:qS.f k a0 a1 a2 a3=some r):
  Calls Tryz.prog 77 #[.int .i64 a0,.int .i64 a1,.int .i64 a2,.string a3] w fun e w'=>e= .returned (.int .i64 r)∧Below w.heap.size w w':=by
 have hu92:=Tryz.underlying92;have HB:=am_ (Below.refl w.heap.size w);have H:(if 0≤2 then(if 2≤(a3.size:Int)then((kH.f k (a3.extract 0 2)).bind fun t277=>(if 3≤5 then(if 5≤(a3.size:Int)then((kH.f k (a3.extract 3 5)).bind fun t278=>(if 6≤8 then(if 8≤(a3.size:Int)then((kH.f k (a3.extract 6 8)).bind fun t279=>((zG.f k a0 a1 a2 t277 t278 t279).bind fun bt280=>(if bt280.2=true then(some bt280.1)else(some (-1)))))else(none))else(none)))else(none))else(none)))else(none))else(none))=some r:=h;clear h
 by_cases c5:0≤2
 ·rw[if_pos c5]at H;have c5b0:=eq_true c5;have c5b1:=dt_ c5;clear c5
  by_cases c6:2≤(a3.size:Int)
  ·rw[if_pos c6]at H;have c6b0:=eq_true c6;have c6b1:=dt_ c6;clear c6;replace H:=be_ H;obtain⟨t277,A70,H⟩:=H;(try dsimp only at H);have A7:=am_ A70;clear A70
   by_cases c8:3≤5
   ·rw[if_pos c8]at H;have c8b0:=eq_true c8;have c8b1:=dt_ c8;clear c8
    by_cases c9:5≤(a3.size:Int)
    ·rw[if_pos c9]at H;have c9b0:=eq_true c9;have c9b1:=dt_ c9;clear c9;replace H:=be_ H;obtain⟨t278,A100,H⟩:=H;(try dsimp only at H);have A10:=am_ A100;clear A100
     by_cases c11:6≤8
     ·rw[if_pos c11]at H;have c11b0:=eq_true c11;have c11b1:=dt_ c11;clear c11
      by_cases c12:8≤(a3.size:Int)
      ·rw[if_pos c12]at H;have c12b0:=eq_true c12;have c12b1:=dt_ c12;clear c12;replace H:=be_ H;obtain⟨t279,A130,H⟩:=H;(try dsimp only at H);have A13:=am_ A130;clear A130;replace H:=be_ H;obtain⟨⟨t280,t281⟩,A140,H⟩:=H;(try dsimp only at H);have A14:=am_ A140;clear A140;have HC15:=am_ H;clear H;go_enter Tryz.func77,Tryz.ntmps77
       (try go_wp2);have n0_:=am_ (wB HB.out);clear HB;have HB:=n0_;clear n0_;refine st_ (n:=19) (S:=fun w'=>True) (ds:= []) trivial (fun hHeld=>?_);refine vF qS.tab1 qS.bits1 (fun HT_ HW_=>?_);generalize w.drew=w16 at HB hHeld ⊢;refine pz 0 12 ?_;refine pz 1 13 ?_;refine pz 2 14 ?_;refine pz 3 15 ?_;refine pz 4 16 ?_;refine pz 6 18 ?_;refine pz 7 19 ?_;refine pz 9 21 ?_;refine pz 10 22 ?_;refine ozZ 5 17 Tryz.func78 #[.string (a3.extract 0 2)] (kH.calls k (a3.extract 0 2) t277 _ A7.out) (fun K hK=>?_);rintro w' ⟨nd,rfl⟩;refine hK.out _ _ trivial (fun hHeld=>?_);clear hK K;refine nz ?_;refine ozZ 8 20 Tryz.func78 #[.string (a3.extract 3 5)] (kH.calls k (a3.extract 3 5) t278 _ A10.out) (fun K hK=>?_);rintro w' ⟨nd,rfl⟩;refine hK.out _ _ trivial (fun hHeld=>?_);clear hK K;refine nz ?_;refine ozZ 11 23 Tryz.func78 #[.string (a3.extract 6 8)] (kH.calls k (a3.extract 6 8) t279 _ A13.out) (fun K hK=>?_);rintro w' ⟨nd,rfl⟩;refine hK.out _ _ trivial (fun hHeld=>?_);clear hK K;refine nz ?_;refine pz 12 24 ?_;refine ozZ 13 25 Tryz.func114 #[.agg #[.int .i64 a0,.int .i64 a1,.int .i64 a2,.int .i64 t277,.int .i64 t278,.int .i64 t279]] (zG.calls k a0 a1 a2 t277 t278 t279 t280 t281 _ A14.out) (fun K hK=>?_);rintro w17 hb;have n0_:=am_ (kA zz0 hb);clear HB;have HB:=n0_;clear n0_;(try clear hb);(try clear hb2);(try clear hk);(try clear hi);refine hK.out _ _ trivial (fun hHeld=>?_);clear hK K;refine nz ?_;refine pz 14 11 ?_;refine pz 15 26 ?_;refine pz 16 27 ?_;refine pz 17 9 ?_;refine pz 18 10 ?_;refine qP (wJ HT_.out (by kernel_rfl)) ?_;go_upto_if 29 with(fail)
       have H:=HC15.out;clear HC15
       by_cases c18:t281=true
       ·subst c18;rw[if_pos rfl]at H;obtain rfl:=si_ H;go_wp2
        go_ret;exact⟨zz1,zz0⟩
       ·replace c18:=bf_ c18;subst c18;rw[if_neg ft_]at H;obtain rfl:=si_ H;go_wp2
        go_ret;exact⟨zz1,zz0⟩
      ·rw[if_neg c12]at H;exact absurd H (by simp)
     ·rw[if_neg c11]at H;exact absurd H (by simp)
    ·rw[if_neg c9]at H;exact absurd H (by simp)
   ·rw[if_neg c8]at H;exact absurd H (by simp)
  ·rw[if_neg c6]at H;exact absurd H (by simp)
 ·rw[if_neg c5]at H;exact absurd H (by simp)
end Go.Proofs.YteojcbbifacpnaaGreatDoor.GFnExactReadLine
