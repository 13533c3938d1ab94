-- Printed by gen.py and its programs for this claim.
import Derived.Test.YteojcbbifacpnaaGreatDoorGFnExactReadLinex0
import Derived.Test.YteojcbbifacpnaaGreatDoorZFnExactReadLine
namespace Go.Proofs.YteojcbbifacpnaaGreatDoor.GFnExactReadLine
open Go.RowKit Go.Proofs.YteojcbbifacpnaaGreatDoorW.PrintWords Go.Proofs.YteojcbbifacpnaaGreatDoorW.PrintLast Go.Proofs.YteojcbbifacpnaaGreatDoorW.PrintMore Go.Proofs.YteojcbbifacpnaaGreatDoorW.Zs
set_option maxHeartbeats 40000000
set_option maxRecDepth 100000
attribute [local go_sem] zL qL xN zN qK xK xL jL
set_option linter.unusedVariables false
set_option linter.unusedSimpArgs false
def xO.j0:Nat→Int→Bool→Option (Int)
 |0,_,_=>none
 |k+1,x0,x8=>if x8=true then(some ((x0-65)%256))else(if x0≥50 then(if x0≤55 then(some (((x0-50)%256)+26))else(some (-1)))else(some (-1)))
def xO.f (k:Nat) (a0:Int):Option (Int):=if a0≥65 then(xO.j0 k a0 (decide (a0≤90)))else(xO.j0 k a0 false)
theorem xO.calls (k:Nat) (a0 r:Int) (w:World) (h:xO.f k a0=some r):
  Calls Tryz.prog 91 #[.int .u8 a0] w fun e w'=>e= .returned (.int .i64 r)∧wI w w':=by
 have H:(if a0≥65 then(xO.j0 k a0 (decide (a0≤90)))else(xO.j0 k a0 false))=some r:=h;clear h;have HC2:=am_ H;clear H;go_enter Tryz.func91,Tryz.ntmps91
 go_upto_region 1 with(fail)
 go_cut [8] (fun v8 wc=> ∃(kq:Nat) (x8_1:Bool),v8= .bool x8_1∧wA (xO.j0 kq a0 x8_1=some r)∧wA (kq≤k)∧wI w wc)
 case first=>
  have H:=HC2.out;clear HC2
  by_cases c3:a0≥65
  ·rw[if_pos c3]at H;have c3b0:decide (65≤a0)=true:=dt_ c3;clear c3;(first|rw[c3b0]|(simp only[yC,qD];rw[c3b0])|skip);have H':=am_ H;clear H;go_wp2
   go_meet
   case rel=>exact⟨_,(decide (a0≤90)),vB,H',⟨jT⟩,zz4⟩
  ·rw[if_neg c3]at H;have c3b0:decide (65≤a0)=false:=df_ c3;clear c3;(first|rw[c3b0]|(simp only[yC,qD];rw[c3b0])|skip);have H':=am_ H;clear H;go_wp2
   go_meet
   case rel=>exact⟨_,(false),vB,H',⟨jT⟩,zz4⟩
 case rest=>
  clear HC2;(try clear p2);(try clear c3);(try clear c3b0);obtain⟨kq,x8_1,rfl,HA,HJ1,⟨mc1,rfl⟩⟩:=hcut
  cases kq with
  |zero=>exact absurd HA.out (by simp[xO.j0])
  |succ kj1=>
   have H:=HA.out;clear HA;simp only[xO.j0]at H
   by_cases c4:x8_1=true
   ·subst c4;rw[if_pos rfl]at H;obtain rfl:=si_ H;go_wp2
    go_ret;exact⟨vB,zz4⟩
   ·replace c4:=bf_ c4;subst c4;rw[if_neg ft_]at H
    by_cases c5:a0≥50
    ·rw[if_pos c5]at H;have c5b0:decide (50≤a0)=true:=dt_ c5;clear c5
     by_cases c6:a0≤55
     ·rw[if_pos c6]at H;have c6b0:=dt_ c6;clear c6;obtain rfl:=si_ H;go_wp2
      go_ret;exact⟨vB,zz4⟩
     ·rw[if_neg c6]at H;have c6b0:=df_ c6;clear c6;obtain rfl:=si_ H;go_wp2
      go_ret;exact⟨vB,zz4⟩
    ·rw[if_neg c5]at H;have c5b0:decide (50≤a0)=false:=df_ c5;clear c5;obtain rfl:=si_ H;go_wp2
     go_ret;exact⟨vB,zz4⟩
def aQ1.f (a0:ByteArray) (a1:Int):Option (Int):=if(wrap64 (Int.tdiv a1 8))≥(a0.size:Int)then(some 0)else(if 0≤(wrap64 (Int.tdiv a1 8))then(if(wrap64 (Int.tdiv a1 8))<(a0.size:Int)then(if 0≤(wrap64 (7-(Int.tmod a1 8)))then(some (Go.bits .and .i64 (shr .i64 (wrap64 (bt a0 (wrap64 (Int.tdiv a1 8)))) (wrap64 (7-(Int.tmod a1 8)))) 1))else(none))else(none))else(none))
theorem aQ1.calls (a0:ByteArray) (a1 r:Int) (w:World) (h:aQ1.f a0 a1=some r):
  Calls Tryz.prog 128 #[.string a0,.int .i64 a1] w fun e w'=>e= .returned (.int .i64 r)∧wI w w':=by
 have H:(if(wrap64 (Int.tdiv a1 8))≥(a0.size:Int)then(some 0)else(if 0≤(wrap64 (Int.tdiv a1 8))then(if(wrap64 (Int.tdiv a1 8))<(a0.size:Int)then(if 0≤(wrap64 (7-(Int.tmod a1 8)))then(some (Go.bits .and .i64 (shr .i64 (wrap64 (bt a0 (wrap64 (Int.tdiv a1 8)))) (wrap64 (7-(Int.tmod a1 8)))) 1))else(none))else(none))else(none)))=some r:=h;clear h
 by_cases c3:(wrap64 (Int.tdiv a1 8))≥(a0.size:Int)
 ·rw[if_pos c3]at H;have c3b0:decide ((a0.size:Int)≤(wrap64 (Int.tdiv a1 8)))=true:=dt_ c3;clear c3;obtain rfl:=si_ H;go_enter Tryz.func128,Tryz.ntmps128
  go_wp2
  go_ret;exact⟨vB,zz4⟩
 ·rw[if_neg c3]at H;have c3b0:decide ((a0.size:Int)≤(wrap64 (Int.tdiv a1 8)))=false:=df_ c3;clear c3;obtain⟨ji4,hji4⟩: ∃j_:Int,(wrap64 (Int.tdiv a1 8))=j_:=⟨_,rfl⟩;replace H:(if 0≤(ji4)then(if(ji4)<(a0.size:Int)then(if 0≤(wrap64 (7-(Int.tmod a1 8)))then(some (Go.bits .and .i64 (shr .i64 (wrap64 (bt a0 (ji4))) (wrap64 (7-(Int.tmod a1 8)))) 1))else(none))else(none))else(none))=some r:=by first|(rw[hji4]at H;exact H)|(simp only[hji4]at H ⊢;exact H)
  (try rw[hji4]at c3b0);have hji4w:(IntKind.i64.wrap (Int.tdiv a1 8))=ji4:=(yC _).trans hji4
  by_cases c5:0≤(ji4)
  ·rw[if_pos c5]at H;have c5b0:=dt_ c5;clear c5
   by_cases c6:(ji4)<(a0.size:Int)
   ·rw[if_pos c6]at H;have c6b0:=dt_ c6;clear c6;obtain⟨ji8,hji8⟩: ∃j_:Int,(wrap64 (7-(Int.tmod a1 8)))=j_:=⟨_,rfl⟩;replace H:(if 0≤(ji8)then(some (Go.bits .and .i64 (shr .i64 (wrap64 (bt a0 (ji4))) (ji8)) 1))else(none))=some r:=by first|(rw[hji8]at H;exact H)|(simp only[hji8]at H ⊢;exact H)
    have hji8w:(IntKind.i64.wrap (7-(Int.tmod a1 8)))=ji8:=(yC _).trans hji8
    by_cases c9:0≤(ji8)
    ·rw[if_pos c9]at H;have c9b0:=eq_true c9;have c9b1:=dt_ c9;clear c9;obtain⟨ji10,hji10⟩: ∃j_:Int,(shr .i64 (wrap64 (bt a0 (ji4))) (ji8))=j_:=⟨_,rfl⟩;replace H:(some (Go.bits .and .i64 (ji10) 1))=some r:=by first|(rw[hji10]at H;exact H)|(simp only[hji10]at H ⊢;exact H)
     have hji10_:((wrap64 (bt a0 (ji4)))/2^min (ji8).toNat 64)=ji10:=hji10;have hji10z:(ji8)≤64→((wrap64 (bt a0 (ji4)))/2^(ji8).toNat)=ji10:=bX4 hji10;obtain rfl:=si_ H;have p7:0≤((ji4):Int):=od_ zz5;have q7:(ji4)<(a0.size:Int):=od_ zz5;have hx7:=wP a0 (ji4);replace p7:=eq_true p7;replace q7:=eq_true q7;go_enter Tryz.func128,Tryz.ntmps128
     go_wp2
     go_ret;exact⟨by first|rfl|(simp;done)|(simp only[←hji4,←hji8,←hji10]<;>(first|rfl|simp))|(simp[*];done),zz4⟩
    ·rw[if_neg c9]at H;exact absurd H (by simp)
   ·rw[if_neg c6]at H;exact absurd H (by simp)
  ·rw[if_neg c5]at H;exact absurd H (by simp)
mutual
def kI.l0:Nat→ByteArray→List Int→Int→Option (ByteArray)
 |0,_,_,_=>none
 |k+1,x0,x3,x4=>if x4<(wrap64 (8*(x0.size:Int)))then(kI.l1 k x0 x3 x4 0 0)else(some (strOfNums x3))
def kI.l1:Nat→ByteArray→List Int→Int→Int→Int→Option (ByteArray)
 |0,_,_,_,_,_=>none
 |k+1,x0,x3,x4,x5,x6=>if x6<5 then((aQ1.f x0 (wrap64 (x4+x6))).bind fun t204=>(kI.l1 k x0 x3 x4 (wrap64 ((wrap64 (2*x5))+t204)) (wrap64 (x6+1))))else(if 0≤x5 then(if x5<32 then(if x3.length<140737488355328 then(kI.l0 k x0 (x3++ [bt (⟨#[65,66,67,68,69,70,71,72,73,74,75,76,77,78,79,80,81,82,83,84,85,86,87,88,89,90,50,51,52,53,54,55]⟩:ByteArray) x5]) (wrap64 (x4+5)))else(none))else(none))else(none))
end
def kI.f (k:Nat) (a0:ByteArray):Option (ByteArray):=if(a0.size:Int)>4000 then(some (⟨#[]⟩:ByteArray))else(kI.l0 k a0 ([]:List Int) 0)
theorem kI.calls (k:Nat) (a0 r:ByteArray) (w:World) (h:kI.f k a0=some r):
  Calls Tryz.prog 92 #[.string a0] w fun e w'=>e= .returned (.string r)∧Below w.heap.size w w':=by
 have HB:=am_ (Below.refl w.heap.size w);have H:(if(a0.size:Int)>4000 then(some (⟨#[]⟩:ByteArray))else(kI.l0 k a0 ([]:List Int) 0))=some r:=h;clear h
 by_cases c2:(a0.size:Int)>4000
 ·rw[if_pos c2]at H;have c2b0:decide (4000<(a0.size:Int))=true:=dt_ c2;have c2b1:decide (4000<a0.size)=true:=dt_ (by omega);clear c2;obtain rfl:=si_ H;go_enter Tryz.func92,Tryz.ntmps92
  go_wp2
  go_ret;exact⟨zz1,zz0⟩
 ·rw[if_neg c2]at H;have c2b0:decide (4000<(a0.size:Int))=false:=df_ c2;have c2b1:decide (4000<a0.size)=false:=df_ (by omega);clear c2;have H':=am_ H;clear H;go_enter Tryz.func92,Tryz.ntmps92
  go_wp2
  go_loopg [3,4] k (fun kq v3 v4 w'=> ∃(x3_1:List Int) (x4_1:Int),v4= .int .i64 x4_1∧wA (kI.l0 kq a0 x3_1 x4_1=some r)∧wA (kq≤k)∧wA (Kd.R (Kd.int .u8) 5 w' w.heap.size (fun _=>True) v3 x3_1)∧wA (Below w.heap.size w w'))
  case atStart=>exact⟨(([]:List Int)),(0),vB,H',⟨Nat.le_refl _⟩,⟨zz44⟩,⟨zz0⟩⟩
  case round=>
   clear H';(try clear c2);(try clear c2b0);(try clear c2b1);(try clear p2);obtain⟨x3_1,x4_1,rfl,HA,HK1,HO_3,HB⟩:=hrel
   cases gk with
   |zero=>exact absurd HA.out (by simp[kI.l0])
   |succ k1=>
    have H:=HA.out;clear HA;simp only[kI.l0]at H
    by_cases c3:x4_1<(wrap64 (8*(a0.size:Int)))
    ·rw[if_pos c3]at H;have c3b0:=dt_ c3;clear c3;have H':=am_ H;clear H;go_wp2
     go_loopg [5,6] k1 (fun kq v5 v6 w'=> ∃(x5_2 x6_2:Int),v5= .int .i64 x5_2∧v6= .int .i64 x6_2∧wA (kI.l1 kq a0 x3_1 x4_1 x5_2 x6_2=some r)∧wA (kq≤k1)∧wA (Kd.R (Kd.int .u8) 5 w' w.heap.size (fun _=>True) u3 x3_1)∧wA (Below w.heap.size w w'))
     case atStart=>exact⟨(0),(0),vB,vB,H',⟨Nat.le_refl _⟩,⟨xX⟩,⟨zz0⟩⟩
     case round=>
      clear H';(try clear c2);(try clear c2b0);(try clear c2b1);(try clear p2);(try clear c3);(try clear c3b0);(try clear p2);obtain⟨x5_2,x6_2,rfl,rfl,HA,HK2,HO_3,HB⟩:=hrel
      cases gk with
      |zero=>exact absurd HA.out (by simp[kI.l1])
      |succ k2=>
       have H:=HA.out;clear HA;simp only[kI.l1]at H
       by_cases c4:x6_2<5
       ·rw[if_pos c4]at H;have c4b0:=dt_ c4;clear c4;replace H:=be_ H;obtain⟨t204,A50,H⟩:=H;(try dsimp only at H);have A5:=am_ A50;clear A50;have H':=am_ H;clear H;go_wp2_with (first|((with_reducible refine zB (f:=128) rfl ?_);refine jG 27 Tryz.func128 #[.string a0,.int .i64 (wrap64 (x4_1+x6_2))] (aQ1.calls a0 (wrap64 (x4_1+x6_2)) t204 _ A5.out) ?_;rintro w' ⟨nd,rfl⟩))
        go_roundg k2
        (case measure=>have:=HK1.out;have:=HK2.out;omega);case rel=>exact⟨(wrap64 ((wrap64 (2*x5_2))+t204)),(wrap64 (x6_2+1)),vB,vB,H',⟨cW9⟩,⟨xX⟩,⟨zz0⟩⟩
       ·rw[if_neg c4]at H;have c4b0:=df_ c4;clear c4
        by_cases c6:0≤x5_2
        ·rw[if_pos c6]at H;have c6b0:=dt_ c6;clear c6
         by_cases c7:x5_2<32
         ·rw[if_pos c7]at H;have c7b0:=dt_ c7;clear c7
          by_cases c9:x3_1.length<140737488355328
          ·rw[if_pos c9]at H;have LMc9:=am_ c9;clear c9;obtain⟨y205,hy205⟩: ∃y_:List Int,y_=(x3_1++ [bt (⟨#[65,66,67,68,69,70,71,72,73,74,75,76,77,78,79,80,81,82,83,84,85,86,87,88,89,90,50,51,52,53,54,55]⟩:ByteArray) x5_2]):=⟨_,rfl⟩;replace H:(kI.l0 k2 a0 y205 (wrap64 (x4_1+5)))=some r:=by first|(rw[hy205];with_reducible exact H)|(have H2_:=(Option.bind_some _ _).symm.trans H;rw[hy205];with_reducible exact H2_)|(have H2_:=(Option.bind_some _ _).symm.trans H;with_reducible exact H2_)|with_reducible exact H|(rw[hy205];exact H)|exact H
           have Ny205:=am_ hy205;clear hy205;have H':=am_ H;clear H;have p8:0≤(x5_2:Int):=od_ zz5;have q8:x5_2<(32:Int):=od_ zz5;have hx8:=wP (⟨#[65,66,67,68,69,70,71,72,73,74,75,76,77,78,79,80,81,82,83,84,85,86,87,88,89,90,50,51,52,53,54,55]⟩:ByteArray) x5_2;replace p8:=eq_true p8;replace q8:=eq_true q8;go_wp2_with (first|((with_reducible refine zO (b:= .append) (xs:= #[.tmp 29,.tmp 32]) rfl ?_);at_builtin;refine Kd.R_append (Kd.int .u8) (w0:=w) w.heap.size rfl (.tmp 29) (.tmp 32) 63 5 (.int .u8 0) 1 rfl Tryz.underlying63 info5 rfl (by decide) (by omega) u3 x3_1 (bt (⟨#[65,66,67,68,69,70,71,72,73,74,75,76,77,78,79,80,81,82,83,84,85,86,87,88,89,90,50,51,52,53,54,55]⟩:ByteArray) x5_2) [.int .u8 (bt (⟨#[65,66,67,68,69,70,71,72,73,74,75,76,77,78,79,80,81,82,83,84,85,86,87,88,89,90,50,51,52,53,54,55]⟩:ByteArray) x5_2)] (fun _=>True) (fun _=>False) rfl rfl ?aP (fun _ hk=>hk.elim) ?aF ?aO ?aB ?aS ?aL ?_;(case aP=>exact rfl);(case aB=>exact zz0);(case aF=>exact(fun _ _=>trivial));(case aO=>exact xX);(case aS=>exact(zH zz0));(case aL=>have:=LMc9.out;omega);intro v206 w10 ho hb hg hat;rw[←Ny205.out]at ho;replace HB:=am_ (hb);have HO207:=am_ (ho);clear HO_3;clear ho hb hg hat))
           go_roundg k2
           (case measure=>have:=HK1.out;have:=HK2.out;omega);case rel=>exact⟨(y205),(wrap64 (x4_1+5)),vB,H',⟨cW9⟩,⟨by(with_reducible repeat(first|apply Kd.R_alloc|apply Kd.R_drewN|apply Kd.R_drew));exact HO207.out⟩,⟨zz0⟩⟩
          ·rw[if_neg c9]at H;exact absurd H (by simp)
         ·rw[if_neg c7]at H;exact absurd H (by simp)
        ·rw[if_neg c6]at H;exact absurd H (by simp)
    ·rw[if_neg c3]at H;have c3b0:=df_ c3;clear c3;obtain rfl:=si_ H;have hcv11:=kS (P:=Tryz.prog) Tryz.underlying63 Tryz.underlying5 Tryz.underlying9 (Kd.own_of_R HO_3.out);go_wp2
     go_ret;exact⟨zz1,zz0⟩
mutual
def zC.l0:Nat→ByteArray→List Int→Int→Option (ByteArray×Bool)
 |0,_,_,_=>none
 |k+1,x0,x4,x5=>if x5<(x0.size:Int)then(if 0≤x5 then((xO.f k (bt x0 x5)).bind fun t212=>(if t212<0 then(some ((⟨#[]⟩:ByteArray),false))else(zC.l1 k x0 x4 x5 t212 0)))else(none))else((kI.f k (strOfNums x4)).bind fun t211=>(if t211.toList=x0.toList then(some (strOfNums x4,true))else(some ((⟨#[]⟩:ByteArray),false))))
def zC.l1:Nat→ByteArray→List Int→Int→Int→Int→Option (ByteArray×Bool)
 |0,_,_,_,_,_=>none
 |k+1,x0,x4,x5,x6,x7=>if x7<5 then(if(wrap64 (Int.tdiv (wrap64 ((wrap64 (5*x5))+x7)) 8))<(x4.length:Int)then(if 0≤(wrap64 (4-x7))then(if(Go.bits .and .i64 (shr .i64 x6 (wrap64 (4-x7))) 1)=1 then(if 0≤(wrap64 (Int.tdiv (wrap64 ((wrap64 (5*x5))+x7)) 8))then(if 0≤(wrap64 (7-(Int.tmod (wrap64 ((wrap64 (5*x5))+x7)) 8)))then(zC.l1 k x0 (x4.set ((wrap64 (Int.tdiv (wrap64 ((wrap64 (5*x5))+x7)) 8)):Int).toNat (((rd x4 (wrap64 (Int.tdiv (wrap64 ((wrap64 (5*x5))+x7)) 8)))+(shl .u8 1 (wrap64 (7-(Int.tmod (wrap64 ((wrap64 (5*x5))+x7)) 8)))))%256)) x5 x6 (wrap64 (x7+1)))else(none))else(none))else(zC.l1 k x0 x4 x5 x6 (wrap64 (x7+1))))else(none))else(zC.l1 k x0 x4 x5 x6 (wrap64 (x7+1))))else(zC.l0 k x0 x4 (wrap64 (x5+1)))
end
def zC.f (k:Nat) (a0:ByteArray):Option (ByteArray×Bool):=if(a0.size:Int)>6400 then(some ((⟨#[]⟩:ByteArray),false))else(if 0≤(wrap64 (Int.tdiv (wrap64 ((a0.size:Int)*5)) 8))then(if(wrap64 (Int.tdiv (wrap64 ((a0.size:Int)*5)) 8):Int).toNat≤281474976710656 then(zC.l0 k a0 (List.replicate (wrap64 (Int.tdiv (wrap64 ((a0.size:Int)*5)) 8):Int).toNat 0) 0)else(none))else(none))
def zC.T15:Bool×List (List Nat×List Nat):=(true,[([],[]),([],[]),([1],[1]),([],[]),([],[]),([4],[4]),([3,5],[3,5]),([6],[6]),([],[]),([8],[8]),([9],[9]),([10],[10]),([7,11],[7,11]),([0,2,0,1,2,3,4,5,6,7,8,9,10,11,12],[0,2]),([13,12,0,1,2,3,4,5,6,7,8,9,10,11,12],[12,13])])
def zC.B15:List Nat:= [0,0,2,0,0,16,56,120,0,256,768,1792,4088,8191,16383]
theorem zC.tab15:kU .any (kX Tryz.f58 15)=zC.T15:=by kernel_rfl
theorem zC.bits15:kP zC.T15.2 zC.B15=true:=by kernel_rfl
theorem zC.calls (k:Nat) (a0 r1:ByteArray) (r2:Bool) (w:World) (h:zC.f k a0=some (r1,r2)):
  Calls Tryz.prog 58 #[.string a0] w fun e w'=>e= .returned (.tuple #[.string r1,.bool r2])∧Below w.heap.size w w':=by
 have HB:=am_ (Below.refl w.heap.size w);have H:(if(a0.size:Int)>6400 then(some ((⟨#[]⟩:ByteArray),false))else(if 0≤(wrap64 (Int.tdiv (wrap64 ((a0.size:Int)*5)) 8))then(if(wrap64 (Int.tdiv (wrap64 ((a0.size:Int)*5)) 8):Int).toNat≤281474976710656 then(zC.l0 k a0 (List.replicate (wrap64 (Int.tdiv (wrap64 ((a0.size:Int)*5)) 8):Int).toNat 0) 0)else(none))else(none)))=some (r1,r2):=h;clear h
 by_cases c2:(a0.size:Int)>6400
 ·rw[if_pos c2]at H;have c2b0:decide (6400<(a0.size:Int))=true:=dt_ c2;have c2b1:decide (6400<a0.size)=true:=dt_ (by omega);clear c2;simp only[Option.some.injEq,Prod.mk.injEq]at H;obtain⟨rfl,rfl⟩:=H;go_enter Tryz.func58,Tryz.ntmps58
  go_wp2
  go_ret2
  exact⟨zz1,zz0⟩
 ·rw[if_neg c2]at H;have c2b0:decide (6400<(a0.size:Int))=false:=df_ c2;have c2b1:decide (6400<a0.size)=false:=df_ (by omega);clear c2;obtain⟨ji3,hji3⟩: ∃j_:Int,(wrap64 (Int.tdiv (wrap64 ((a0.size:Int)*5)) 8))=j_:=⟨_,rfl⟩;replace H:(if 0≤(ji3)then(if(ji3:Int).toNat≤281474976710656 then(zC.l0 k a0 (List.replicate (ji3:Int).toNat 0) 0)else(none))else(none))=some (r1,r2):=by first|(rw[hji3]at H;exact H)|(simp only[hji3]at H ⊢;exact H)
  have hji3w:(IntKind.i64.wrap (Int.tdiv (wrap64 ((a0.size:Int)*5)) 8))=ji3:=(yC _).trans hji3
  by_cases c4:0≤(ji3)
  ·rw[if_pos c4]at H;have c4b0:=eq_true c4;have c4b1:=dt_ c4;clear c4
   by_cases c5:(ji3:Int).toNat≤281474976710656
   ·rw[if_pos c5]at H;have c5b0:=eq_true c5;have c5b1:=dt_ c5;clear c5;obtain⟨y208,hy208⟩: ∃y_:List Int,y_=(List.replicate (ji3:Int).toNat 0):=⟨_,rfl⟩;replace H:(zC.l0 k a0 y208 0)=some (r1,r2):=by first|(rw[hy208];with_reducible exact H)|(have H2_:=(Option.bind_some _ _).symm.trans H;rw[hy208];with_reducible exact H2_)|(have H2_:=(Option.bind_some _ _).symm.trans H;with_reducible exact H2_)|with_reducible exact H|(rw[hy208];exact H)|exact H
    have Ny208:=am_ hy208;clear hy208;have H':=am_ H;clear H;go_enter Tryz.func58,Tryz.ntmps58
    go_wp2_with (first|((with_reducible refine xF (N:=16) rfl ?_);refine Kd.R_make (Kd.int .u8) _ 5 rfl (N:=16) rfl 63 _ _ rfl ji3 rfl rfl Tryz.underlying63 (.int .u8 0) 1 info5 rfl (by decide) (by omega) 0 (ok:=fun _=>True) (okp:=fun _=>True) rfl (fun _ hk=>hk) trivial (od_ zz5) (Nat.le_trans (Nat.mul_le_mul_right _ (od_ zz5:ji3.toNat≤281474976710656)) (by omega)) (Below.refl _ _) (Nat.le_refl _) ?_;intro v209 w6 ho7 hb hg_ hnew_;clear hg_ hnew_;(first|rw[←Ny208.out]at ho7|(simp only[Int.reduceToNat]at ho7;rw[←Ny208.out]at ho7));have HO210:=am_ (Kd.R_lower ho7 (zH zz0));replace HB:=am_ (kA zz0 hb);clear hb ho7))
    go_loopg [5] k (fun kq v5 w'=> ∃(x4_1:List Int) (x5_1:Int),v5= .int .i64 x5_1∧wA (zC.l0 kq a0 x4_1 x5_1=some (r1,r2))∧wA (kq≤k)∧wA (Kd.R (Kd.int .u8) 5 w' w.heap.size (fun _=>True) v209 x4_1)∧wA (Below w.heap.size w w'))
    case atStart=>exact⟨(y208),(0),vB,H',⟨Nat.le_refl _⟩,⟨by(with_reducible repeat(first|apply Kd.R_alloc|apply Kd.R_drewN|apply Kd.R_drew));exact HO210.out⟩,⟨zz0⟩⟩
    case round=>
     clear H';(try clear c2);(try clear c2b0);(try clear c2b1);(try clear p2);(try clear c4);(try clear c4b0);(try clear c4b1);(try clear c5);(try clear c5b0);(try clear c5b1);(try clear p6);obtain⟨x4_1,x5_1,rfl,HA,HK1,HO_4,HB⟩:=hrel
     cases gk with
     |zero=>exact absurd HA.out (by simp[zC.l0])
     |succ k1=>
      have H:=HA.out;clear HA;simp only[zC.l0]at H
      by_cases c8:x5_1<(a0.size:Int)
      ·rw[if_pos c8]at H;have c8b0:=dt_ c8;clear c8
       by_cases c9:0≤x5_1
       ·rw[if_pos c9]at H;have c9b0:=dt_ c9;clear c9;replace H:=be_ H;obtain⟨t212,A110,H⟩:=H;(try dsimp only at H);have A11:=am_ A110;clear A110;have HC12:=am_ H;clear H;have p10:0≤(x5_1:Int):=od_ zz5;have q10:x5_1<(a0.size:Int):=od_ zz5;have hx10:=wP a0 x5_1;replace p10:=eq_true p10;replace q10:=eq_true q10;go_upto_if 28 with(first|((with_reducible refine zB (f:=91) rfl ?_);refine jG 26 Tryz.func91 #[.int .u8 (bt a0 x5_1)] (xO.calls k1 (bt a0 x5_1) t212 _ A11.out) ?_;rintro w' ⟨nd,rfl⟩))
        (try simp only[Act.put,List.setIfInBounds_toArray,List.set_cons_zero,List.set_cons_succ]);(try(rw[jJ wr];generalize hq_:World.drewN wr _=wr;have n0_:wA (Kd.R (Kd.int .u8) 5 wr w.heap.size (fun _=>True) v209 x4_1):=⟨by rw[←hq_];exact aZ7⟩;have n1_:wA (Below w.heap.size w wr):=⟨cQ1⟩;clear HO_4 HB hq_;have HO_4:=n0_;have HB:=n1_;clear n0_ n1_));have H:=HC12.out;clear HC12
        by_cases c13:t212<0
        ·rw[if_pos c13]at H;have c13b0:=dt_ c13;clear c13;(first|rw[c13b0]|(simp only[yC,qD];rw[c13b0])|skip);simp only[Option.some.injEq,Prod.mk.injEq]at H;obtain⟨rfl,rfl⟩:=H;go_wp2
         go_ret2
         exact⟨zz92,zz0⟩
        ·rw[if_neg c13]at H;have c13b0:=df_ c13;clear c13;(first|rw[c13b0]|(simp only[yC,qD];rw[c13b0])|skip);have H':=am_ H;clear H;go_wp2
         go_loopg [7] k1 (fun kq v7 w'=> ∃(x4_2:List Int) (x7_2:Int),v7= .int .i64 x7_2∧wA (zC.l1 kq a0 x4_2 x5_1 t212 x7_2=some (r1,r2))∧wA (kq≤k1)∧wA (Kd.R (Kd.int .u8) 5 w' w.heap.size (fun _=>True) v209 x4_2)∧wA (Below w.heap.size w w'))
         case atStart=>exact⟨(x4_1),(0),vB,H',⟨Nat.le_refl _⟩,⟨aZ7⟩,⟨zz0⟩⟩
         case round=>
          clear H';(try clear c1);(try clear p1);(try clear q1);(try clear hx1);(try clear c2);(try clear c2b0);(try clear c2b1);(try clear p2);(try clear c4);(try clear c4b0);(try clear c4b1);(try clear c5);(try clear c5b0);(try clear c5b1);(try clear p6);(try clear c8);(try clear c8b0);(try clear c9);(try clear c9b0);(try clear p10);(try clear q10);(try clear hx10);(try clear c13);(try clear c13b0);(try clear p10);(try clear p2);(try clear p6);(try clear q10);obtain⟨x4_2,x7_2,rfl,HA,HK2,HO_4,HB⟩:=hrel
          cases gk with
          |zero=>exact absurd HA.out (by simp[zC.l1])
          |succ k2=>
           have H:=HA.out;clear HA;simp only[zC.l1]at H
           by_cases c14:x7_2<5
           ·rw[if_pos c14]at H;have c14b0:=dt_ c14;clear c14;have HC15:=am_ H;clear H;obtain⟨Ao16,co16,eo16⟩:=Kd.R_slice HO_4.out;subst eo16
            repeat' (first|(go_big_may;(fail))|go_values|go_skip|go_big_skip|go_big_want|((first|(with_reducible refine wE rfl ?_)|(fail_if_success with_reducible refine yE ?_));go_step)|go_upon|simp only[Bool.not_true,Bool.not_false,Bool.true_and,Bool.false_and,Bool.true_or,Bool.false_or]|dsimp only)
            have H:=HC15.out;clear HC15
            by_cases c17:(wrap64 (Int.tdiv (wrap64 ((wrap64 (5*x5_1))+x7_2)) 8))<(x4_2.length:Int)
            ·rw[if_pos c17]at H;have c17b0:=dt_ c17;clear c17;(first|rw[c17b0]|(simp only[yC,qD];rw[c17b0])|skip);obtain⟨ji18,hji18⟩: ∃j_:Int,(wrap64 (4-x7_2))=j_:=⟨_,rfl⟩;replace H:(if 0≤(ji18)then(if(Go.bits .and .i64 (shr .i64 t212 (ji18)) 1)=1 then(if 0≤(wrap64 (Int.tdiv (wrap64 ((wrap64 (5*x5_1))+x7_2)) 8))then(if 0≤(wrap64 (7-(Int.tmod (wrap64 ((wrap64 (5*x5_1))+x7_2)) 8)))then(zC.l1 k2 a0 (x4_2.set ((wrap64 (Int.tdiv (wrap64 ((wrap64 (5*x5_1))+x7_2)) 8)):Int).toNat (((rd x4_2 (wrap64 (Int.tdiv (wrap64 ((wrap64 (5*x5_1))+x7_2)) 8)))+(shl .u8 1 (wrap64 (7-(Int.tmod (wrap64 ((wrap64 (5*x5_1))+x7_2)) 8)))))%256)) x5_1 t212 (wrap64 (x7_2+1)))else(none))else(none))else(zC.l1 k2 a0 x4_2 x5_1 t212 (wrap64 (x7_2+1))))else(none))=some (r1,r2):=by first|(rw[hji18]at H;exact H)|(simp only[hji18]at H ⊢;exact H)
             have hji18w:(IntKind.i64.wrap (4-x7_2))=ji18:=(yC _).trans hji18
             by_cases c19:0≤(ji18)
             ·rw[if_pos c19]at H;have c19b0:=eq_true c19;have c19b1:=dt_ c19;clear c19;obtain⟨ji20,hji20⟩: ∃j_:Int,(shr .i64 t212 (ji18))=j_:=⟨_,rfl⟩;replace H:(if(Go.bits .and .i64 (ji20) 1)=1 then(if 0≤(wrap64 (Int.tdiv (wrap64 ((wrap64 (5*x5_1))+x7_2)) 8))then(if 0≤(wrap64 (7-(Int.tmod (wrap64 ((wrap64 (5*x5_1))+x7_2)) 8)))then(zC.l1 k2 a0 (x4_2.set ((wrap64 (Int.tdiv (wrap64 ((wrap64 (5*x5_1))+x7_2)) 8)):Int).toNat (((rd x4_2 (wrap64 (Int.tdiv (wrap64 ((wrap64 (5*x5_1))+x7_2)) 8)))+(shl .u8 1 (wrap64 (7-(Int.tmod (wrap64 ((wrap64 (5*x5_1))+x7_2)) 8)))))%256)) x5_1 t212 (wrap64 (x7_2+1)))else(none))else(none))else(zC.l1 k2 a0 x4_2 x5_1 t212 (wrap64 (x7_2+1))))=some (r1,r2):=by first|(rw[hji20]at H;exact H)|(simp only[hji20]at H ⊢;exact H)
              have hji20_:(t212/2^min (ji18).toNat 64)=ji20:=hji20;have hji20z:(ji18)≤64→(t212/2^(ji18).toNat)=ji20:=bX4 hji20
              by_cases c21:(Go.bits .and .i64 (ji20) 1)=1
              ·rw[if_pos c21]at H;have c21b0:((Go.bits .and .i64 (ji20) 1)==1)=true:=beq_iff_eq.mpr c21;have c21b1:((Go.bits .and .i64 (ji20) 1)!=1)=false:=bne_eq_false_iff_eq.mpr c21;clear c21;obtain⟨ji22,hji22⟩: ∃j_:Int,(wrap64 (Int.tdiv (wrap64 ((wrap64 (5*x5_1))+x7_2)) 8))=j_:=⟨_,rfl⟩;replace H:(if 0≤(ji22)then(if 0≤(wrap64 (7-(Int.tmod (wrap64 ((wrap64 (5*x5_1))+x7_2)) 8)))then(zC.l1 k2 a0 (x4_2.set ((ji22):Int).toNat (((rd x4_2 (ji22))+(shl .u8 1 (wrap64 (7-(Int.tmod (wrap64 ((wrap64 (5*x5_1))+x7_2)) 8)))))%256)) x5_1 t212 (wrap64 (x7_2+1)))else(none))else(none))=some (r1,r2):=by first|(rw[hji22]at H;exact H)|(simp only[hji22]at H ⊢;exact H)
               (try rw[hji22]at c17b0);have hji22w:(IntKind.i64.wrap (Int.tdiv (wrap64 ((wrap64 (5*x5_1))+x7_2)) 8))=ji22:=(yC _).trans hji22
               by_cases c23:0≤(ji22)
               ·rw[if_pos c23]at H;have c23b0:=dt_ c23;clear c23;obtain⟨ji24,hji24⟩: ∃j_:Int,(wrap64 (7-(Int.tmod (wrap64 ((wrap64 (5*x5_1))+x7_2)) 8)))=j_:=⟨_,rfl⟩;replace H:(if 0≤(ji24)then(zC.l1 k2 a0 (x4_2.set ((ji22):Int).toNat (((rd x4_2 (ji22))+(shl .u8 1 (ji24)))%256)) x5_1 t212 (wrap64 (x7_2+1)))else(none))=some (r1,r2):=by first|(rw[hji24]at H;exact H)|(simp only[hji24]at H ⊢;exact H)
                have hji24w:(IntKind.i64.wrap (7-(Int.tmod (wrap64 ((wrap64 (5*x5_1))+x7_2)) 8)))=ji24:=(yC _).trans hji24
                by_cases c25:0≤(ji24)
                ·rw[if_pos c25]at H;have c25b0:=eq_true c25;have c25b1:=dt_ c25;clear c25;obtain⟨ji26,hji26⟩: ∃j_:Int,(shl .u8 1 (ji24))=j_:=⟨_,rfl⟩;replace H:(zC.l1 k2 a0 (x4_2.set ((ji22):Int).toNat (((rd x4_2 (ji22))+(ji26))%256)) x5_1 t212 (wrap64 (x7_2+1)))=some (r1,r2):=by first|(rw[hji26]at H;exact H)|(simp only[hji26]at H ⊢;exact H)
                 have hji26_:(IntKind.u8.wrap (1*2^min (ji24).toNat 8))=ji26:=hji26;have hji26z:(ji24)≤8→(IntKind.u8.wrap (1*2^(ji24).toNat))=ji26:=dJ9 hji26;have hji26u:(IntKind.u8.wrap (2^min (ji24).toNat 8))=ji26:=by have h_:=hji26_;rw[Int.one_mul]at h_;exact h_
                 have hji26v:(ji24)≤8→(IntKind.u8.wrap (2^(ji24).toNat))=ji26:=fun hle_=>by have h_:=hji26z hle_;rw[Int.one_mul]at h_;exact h_
                 obtain⟨y214,hy214⟩: ∃y_:List Int,y_=(x4_2.set ((ji22):Int).toNat (((rd x4_2 (ji22))+(ji26))%256)):=⟨_,rfl⟩;replace H:(zC.l1 k2 a0 y214 x5_1 t212 (wrap64 (x7_2+1)))=some (r1,r2):=by first|(rw[hy214];with_reducible exact H)|(have H2_:=(Option.bind_some _ _).symm.trans H;rw[hy214];with_reducible exact H2_)|(have H2_:=(Option.bind_some _ _).symm.trans H;with_reducible exact H2_)|with_reducible exact H|(rw[hy214];exact H)|exact H
                 have Ny214:=am_ hy214;clear hy214;have H':=am_ H;clear H;(try go_wp2);replace HO_4:=am_ (Kd.R_drew HO_4.out);replace HB:=am_ (wB HB.out);have p213:0≤((ji22):Int):=od_ zz5;have q213:(ji22)<(x4_2.length:Int):=od_ zz5;obtain⟨ad213,e213,hx213_0⟩:=Kd.at_int (Kd.R_reads' HO_4.out).2.2 (ji22) p213 q213;cases e213;replace p213:=eq_true p213;replace q213:=eq_true q213;have p27:0≤((ji22):Int):=od_ zz5;have q27:((ji22):Int)<((x4_2.length:Int):Int):=od_ zz5;obtain⟨go27,co27,eo27,gb27,gl27,cl27,HG27⟩:=Kd.R_form HO_4.out (by omega);(first|cases eo27|(injection eo27 with ea_ en_ ec_;(first|subst ea_|(injection ea_ with ea_;subst ea_));subst ec_;clear en_));have GB27:=am_ gb27;have GG27:=am_ HG27;clear gb27 gl27 HG27;(first|simp only[bX5]at hx213_0|skip);obtain⟨hx27_0,hf27_0⟩:=Kd.R_celln 0 HO_4.out ((ji22):Int) p27 q27;replace p27:=eq_true p27;replace q27:=eq_true q27;have HP29:=Kd.R_putn HO_4.out ((ji22):Int) (((rd x4_2 (ji22))+(ji26))%256);rw[←Ny214.out]at HP29;have HQ29:=am_ HP29;clear HP29;refine st_ (n:=15) (S:=fun w'=>w'.cell? ⟨go27,((ji22)).toNat,none⟩=some (.int .u8 (rd x4_2 (ji22)))) (ds:= [14]) (hx213_0) (fun hHeld=>?_);refine vF zC.tab15 zC.bits15 (fun HT_ HW_=>?_);generalize wr.drew=w28 at HO_4 HB GG27 HQ29 hf27_0 hx213_0 hx27_0 hHeld ⊢;refine pz 0 50 ?_;refine pz 1 51 ?_;refine pz 2 52 ?_;refine pz 3 53 ?_;refine pz 4 54 ?_;refine pz 5 55 ?_;refine pz 6 56 ?_;refine pz 8 58 ?_;refine pz 9 59 ?_;refine pz 10 60 ?_;refine pz 11 61 ?_;refine tk (i:=7) (N:=some 57) (v:=?_) (a':=?_) rfl rfl (xW HT_.out HW_.out (by kernel_rfl)) (Or.inl ⟨by kernel_rfl,?_⟩) hHeld ?_ ?_;rotate_left
                 ·intro w' s0;go_simp;with_reducible rfl
                 rotate_left
                 ·simp only[Act.put,List.setIfInBounds_toArray,List.set_cons_zero,List.set_cons_succ,yC,qD];rfl
                 refine pz 12 62 ?_;refine pz 13 63 ?_;refine last_ (i:=14) (N:=none) #[true,true,true,true,true,true,true,true,true,true,true,true,true,true,true] rfl rfl (aW4 HT_.out (by kernel_rfl)) (by decide) (fun K hK=>?_);refine cJ1 (w1:=?_) (by rfl) rfl ?_ ?_;rotate_left
                 ·go_simp;rfl
                 refine hK.out _ _ ?_;clear hK K;refine qP (wJ HT_.out (by kernel_rfl)) ?_;(try go_wp2);go_roundg k2
                 (case measure=>have:=HK1.out;have:=HK2.out;omega);case rel=>exact⟨(y214),(wrap64 (x7_2+1)),vB,H',⟨cW9⟩,⟨by(with_reducible repeat(first|apply Kd.R_alloc|apply Kd.R_drewN|apply Kd.R_drew));exact HQ29.out⟩,⟨by repeat(first|(with_reducible first|exact HB.out|apply zD|apply wC|apply wB|refine wD ?_ GB27.out)|exact HB.out)⟩⟩
                ·rw[if_neg c25]at H;exact absurd H (by simp)
               ·rw[if_neg c23]at H;exact absurd H (by simp)
              ·rw[if_neg c21]at H;have c21b0:((Go.bits .and .i64 (ji20) 1)==1)=false:=beq_eq_false_iff_ne.mpr c21;have c21b1:((Go.bits .and .i64 (ji20) 1)!=1)=true:=bne_iff_ne.mpr c21;have H':=am_ H;clear H;go_wp2
               go_roundg k2
               (case measure=>have:=HK1.out;have:=HK2.out;omega);case rel=>exact⟨(x4_2),(wrap64 (x7_2+1)),vB,H',⟨cW9⟩,⟨aZ7⟩,⟨zz0⟩⟩
             ·rw[if_neg c19]at H;exact absurd H (by simp)
            ·rw[if_neg c17]at H;have c17b0:=df_ c17;clear c17;(first|rw[c17b0]|(simp only[yC,qD];rw[c17b0])|skip);have H':=am_ H;clear H;go_wp2
             go_roundg k2
             (case measure=>have:=HK1.out;have:=HK2.out;omega);case rel=>exact⟨(x4_2),(wrap64 (x7_2+1)),vB,H',⟨cW9⟩,⟨aZ7⟩,⟨zz0⟩⟩
           ·rw[if_neg c14]at H;have c14b0:=df_ c14;clear c14;have H':=am_ H;clear H;go_wp2
            go_roundg k2
            (case measure=>have:=HK1.out;have:=HK2.out;omega);case rel=>exact⟨(x4_2),(wrap64 (x5_1+1)),vB,H',⟨cW9⟩,⟨aZ7⟩,⟨zz0⟩⟩
       ·rw[if_neg c9]at H;exact absurd H (by simp)
      ·rw[if_neg c8]at H;have c8b0:=df_ c8;clear c8;replace H:=be_ H;obtain⟨t211,A300,H⟩:=H;(try dsimp only at H);have A30:=am_ A300;clear A300;have HC31:=am_ H;clear H;have hcv32:=kS (P:=Tryz.prog) Tryz.underlying63 Tryz.underlying5 Tryz.underlying9 (Kd.own_of_R HO_4.out);go_upto_if 68 with(first|((with_reducible refine zB (f:=92) rfl ?_);refine jG 66 Tryz.func92 #[.string (strOfNums x4_1)] (kI.calls k1 (strOfNums x4_1) t211 _ A30.out) ?_;rintro w33 hb;replace HO_4:=am_ (Kd.R_below aZ7 hb);replace HB:=am_ (kA zz0 hb);(try clear hb)))
       (try simp only[Act.put,List.setIfInBounds_toArray,List.set_cons_zero,List.set_cons_succ]);have H:=HC31.out;clear HC31
       by_cases c34:t211.toList=a0.toList
       ·rw[if_pos c34]at H;have c34b0:(t211.toList==a0.toList)=true:=beq_iff_eq.mpr c34;have c34b1:(t211.toList !=a0.toList)=false:=bne_eq_false_iff_eq.mpr c34;clear c34;(first|rw[c34b0]|(simp only[yC,qD];rw[c34b0])|rw[c34b1]|(rw[c34b2];simp only[Bool.not_true,Bool.not_false])|skip);simp only[Option.some.injEq,Prod.mk.injEq]at H;obtain⟨rfl,rfl⟩:=H;have hcv35:=kS (P:=Tryz.prog) Tryz.underlying63 Tryz.underlying5 Tryz.underlying9 (Kd.own_of_R HO_4.out);go_wp2
        go_ret2
        exact⟨zz92,zz0⟩
       ·rw[if_neg c34]at H;have c34b0:(t211.toList==a0.toList)=false:=beq_eq_false_iff_ne.mpr c34;have c34b1:(t211.toList !=a0.toList)=true:=bne_iff_ne.mpr c34;(first|rw[c34b0]|(simp only[yC,qD];rw[c34b0])|rw[c34b1]|(rw[c34b2];simp only[Bool.not_true,Bool.not_false])|skip);simp only[Option.some.injEq,Prod.mk.injEq]at H;obtain⟨rfl,rfl⟩:=H;go_wp2
        go_ret2
        exact⟨zz92,zz0⟩
   ·rw[if_neg c5]at H;exact absurd H (by simp)
  ·rw[if_neg c4]at H;exact absurd H (by simp)
end Go.Proofs.YteojcbbifacpnaaGreatDoor.GFnExactReadLine
